/- Loops over a map of the call's own: the map is frozen, its entries are handed out in any order. A slice that is stored cut short. -/
import Derived.Test.YtacjfkmonjbcmaaAbP4
import Derived.RangeFuncRecord
import Derived.Laws.IdiomRangeMap
set_option linter.unusedVariables false
namespace Go.Ab

section
variable {P : Program} {G : Nat → Option (List PV)} {w0 : Base} {μ : Ro} {φ : Nat → Phys} {m : Mem} {w : World}
theorem RelM.addRo (hM : RelM P G w0 μ φ m w) {g : Nat} (hB : w0.heap.size ≤ g) (hfree : ∀ id b, m id = some b → ¬ b.owns (φ id) g) : RelM P G w0 (roAdd μ w (some g)) φ m w := by
  have mono := roAdd_mono hM (some g)
  refine ⟨hM.below, fun b o hb => ?_, fun g' cs hg => (hM.glob g' cs hg).mono mono, fun j c hj => (hM.blk j c hj).stable (fun _ _ => rfl) rfl mono (fun _ _ => rfl), fun j c g' hj hg' => ?_, hM.inj, hM.apart, hM.liveB, fun b o hb hlt => ?_, fun b o hb => mono b o (hM.keep b o hb), hM.lps⟩
  · unfold roAdd at hb
    split at hb
    · exact hb
    · exact hM.ro b o hb
  · obtain ⟨h1, h2⟩ := hM.own j c g' hj hg'
    refine ⟨h1, fun hmu => ?_⟩
    unfold roAdd
    split
    · rename_i he
      simp only [Option.some.injEq] at he
      subst he
      exact absurd hg' (hfree j c hj)
    · exact h2 hmu
  · unfold roAdd at hb
    split at hb
    · rename_i he
      simp only [Option.some.injEq] at he
      omega
    · exact hM.base b o hb hlt

theorem bel_putObj (w : World) (g : Nat) (o : Obj) : Bel g w (w.putObj g o) :=
  ⟨⟨rfl, rfl, rfl, by simp, fun k hk => World.putObj_heap_other (by omega)⟩, fun _ => Nat.le_refl _⟩
theorem filter_erase {A : Type} (f : A → Nat) : ∀ {l : List A} {i : Nat} {e : A}, l[i]? = some e → (∀ (j : Nat) x, l[j]? = some x → f x = f e → j = i) → l.filter (fun x => !(f x == f e)) = l.eraseIdx i
  | [], i, e, h, _ => by simp at h
  | y :: l, 0, e, h, inj => by
    simp only [List.getElem?_cons_zero, Option.some.injEq] at h
    subst h
    simp only [List.filter_cons, BEq.rfl, Bool.not_true, Bool.false_eq_true, if_false, List.eraseIdx_cons_zero]
    rw [List.filter_eq_self]
    intro x hx
    obtain ⟨j, hj⟩ := List.mem_iff_getElem?.1 hx
    simp only [Bool.not_eq_true', beq_eq_false_iff_ne]
    intro e
    have := inj (j + 1) x (by simpa using hj) e
    omega
  | y :: l, i + 1, e, h, inj => by
    have h' : l[i]? = some e := by simpa using h
    have hne : ¬ f y = f e := fun e' => by
      have := inj 0 y rfl e'
      omega
    have hb : (f y == f e) = false := by simpa using hne
    simp only [List.filter_cons, hb, Bool.not_false, if_true, List.eraseIdx_cons_succ]
    rw [filter_erase f h' (fun j x hj e' => by
      have := inj (j + 1) x (by simpa using hj) e'
      omega)]
theorem leftE_nil (en : Array MapEntry) : leftE en #[] = en.toList := by
  unfold leftE
  rw [List.filter_eq_self]
  intro x _
  simp
theorem leftE_push {en : Array MapEntry} {clock : Nat} (hb : BornOk en clock) {seen : Array Nat} {i : Nat} {e : MapEntry} (hi : (leftE en seen)[i]? = some e) : leftE en (seen.push e.born) = (leftE en seen).eraseIdx i := by
  have h1 : leftE en (seen.push e.born) = (leftE en seen).filter (fun x => !(x.born == e.born)) := by
    unfold leftE
    rw [List.filter_filter]
    congr 1
    funext x
    simp only [Array.contains_push, Bool.not_or]
    rw [Bool.and_comm]
  rw [h1]
  refine filter_erase (fun x => x.born) hi fun j x hj e' => ?_
  -- entries of the list are entries of the map; stamps are different
  have hnd : (leftE en seen).Pairwise fun a b => a.born ≠ b.born := by
    unfold leftE
    refine List.Pairwise.filter _ ?_
    rw [List.pairwise_iff_getElem]
    intro a b ha hb' hab he
    have h2 : en[a]? = some en.toList[a] := by rw [← Array.getElem?_toList]; exact List.getElem?_eq_getElem ha
    have h3 : en[b]? = some en.toList[b] := by rw [← Array.getElem?_toList]; exact List.getElem?_eq_getElem hb'
    have := (hb b _ h3).2 a _ h2 he
    omega
  have hjl : j < (leftE en seen).length := (List.getElem?_eq_some_iff.1 hj).1
  have hil : i < (leftE en seen).length := (List.getElem?_eq_some_iff.1 hi).1
  rw [List.getElem?_eq_getElem hjl] at hj
  rw [List.getElem?_eq_getElem hil] at hi
  simp only [Option.some.injEq] at hj hi
  rw [List.pairwise_iff_getElem] at hnd
  rcases Nat.lt_trichotomy j i with h | h | h
  · exact absurd (by rw [hj, hi]; exact e') (hnd j i hjl hil h)
  · exact h
  · exact absurd (by rw [hj, hi]; exact e'.symm) (hnd i j hil hjl h)
theorem leftE_mem {en : Array MapEntry} {seen : Array Nat} {e : MapEntry} (h : e ∈ leftE en seen) : ∃ i : Nat, en[i]? = some e := by
  unfold leftE at h
  have := (List.mem_filter.1 h).1
  obtain ⟨i, hi⟩ := List.mem_iff_getElem?.1 this
  exact ⟨i, by rw [← Array.getElem?_toList]; exact hi⟩
theorem run_nextE {w : World} {g mg clock : Nat} {seen : Array Nat} {en : Array MapEntry} (hg : w.heap[g]? = some (.mapIter (some mg) clock seen clock)) (hm : w.heap[mg]? = some (.map en clock)) (hb : BornOk en clock) (ty : TypeId) :
    (leftE en seen = [] ∧ (Instr.next (.pointer (some ⟨g, 0, none⟩)) false ty).run P w = .ok (.tuple #[.bool false]) w) ∨
    ∃ (j : Nat) (e : MapEntry) (w1 : World), (leftE en seen)[j]? = some e ∧ (w1 = w ∨ w1 = w.drew) ∧ (Instr.next (.pointer (some ⟨g, 0, none⟩)) false ty).run P w = .ok (.tuple #[.bool true, e.key, e.val]) (w1.putObj g (.mapIter (some mg) clock (seen.push e.born) clock)) := by
  have hold : ∀ x ∈ en.toList, x.born < clock := fun x hx => by
    obtain ⟨i, hi⟩ := List.mem_iff_getElem?.1 hx
    exact (hb i x (by rw [← Array.getElem?_toList]; exact hi)).1
  simp only [Instr.next, getObj, Sem.run_bind, Sem.run, hg, hm, Result.andThen, next_test_false seen en clock clock hold (Nat.le_refl _), Bool.false_eq_true, if_false]
  have hL : (Array.filter (fun e => !seen.contains e.born) en).toList = leftE en seen := by simp [leftE]
  have hmem : ∀ x ∈ (Array.filter (fun e => !seen.contains e.born) en).toList, x.born < clock := fun x hx => hold x (by simp at hx ⊢; exact hx.1)
  generalize Array.filter (fun e => !seen.contains e.born) en = L at hmem hL ⊢
  have e1 : L.filter (fun x => decide (x.born < clock)) = L := Array.filter_eq_self.2 (fun x hx => by simpa using hmem x (by simpa using hx))
  have e2 : L.filter (fun x => decide (x.born ≥ clock)) = #[] := by
    rw [Array.filter_eq_empty_iff]
    intro x hx
    have := hmem x (by simpa using hx)
    simp
    omega
  simp only [e1, e2, Array.append_empty]
  rw [← hL]
  by_cases h0 : L.size = 0
  · left
    have : L = #[] := Array.eq_empty_of_size_eq_zero h0
    subst this
    refine ⟨rfl, ?_⟩
    simp [choose, Sem.run, Question.forced]
  · right
    have hne : L.isEmpty = false := by simp [Array.isEmpty, h0]
    simp only [hne, Bool.false_eq_true, if_false, Array.empty_append, Array.size_map]
    have hch : ∃ (j : Nat) (w1 : World), j < L.size ∧ (w1 = w ∨ w1 = w.drew) ∧ (choose (Question.mapNext L.size)).run P w = .ok j w1 := by
      by_cases hf : L.size ≤ 1
      · exact ⟨0, w, by omega, .inl rfl, by simp [choose, Sem.run, Question.forced, hf]⟩
      · exact ⟨_, w.drew, Nat.mod_lt _ (by omega), .inr rfl, by
          simp only [choose, Sem.run, Question.forced, decide_eq_true_eq, hf, if_false, Question.cut]
          rfl⟩
    obtain ⟨j, w1, hj, hal, hrun⟩ := hch
    refine ⟨j, L[j], w1, by rw [Array.getElem?_toList, Array.getElem?_eq_getElem hj], hal, ?_⟩
    have hg1 : w1.heap[g]? = some (.mapIter (some mg) clock seen clock) := by rcases hal with rfl | rfl <;> exact hg
    have hset : (setObj g (.mapIter (some mg) clock (seen.push L[j].born) clock)).run P w1 = .ok () (w1.putObj g (.mapIter (some mg) clock (seen.push L[j].born) clock)) := by
      simp only [setObj, Sem.run, hg1]
      rfl
    simp only [hrun, Array.getElem?_map, Array.getElem?_eq_getElem hj, Option.map_some, Sem.run_bind, hset, Result.andThen]
    rfl
theorem run_entryE {w : World} {g mg clock : Nat} {seen : Array Nat} {en : Array MapEntry} {i : Nat} {e : MapEntry} (hg : w.heap[g]? = some (.mapIter (some mg) clock seen clock)) (hm : w.heap[mg]? = some (.map en clock)) (hb : BornOk en clock) (hi : en[i]? = some e) (hs : seen.back? = some e.born) :
    (Instr.entry (.pointer (some ⟨g, 0, none⟩))).run P w = .ok (.tuple #[e.key, e.val]) w := by
  have hf : en.find? (·.born == e.born) = some e := by
    rw [← Array.find?_toList]
    refine find_born e en.toList ?_ (by rw [Array.mem_toList_iff]; exact Array.mem_of_getElem? hi)
    rw [List.Nodup, List.pairwise_map, List.pairwise_iff_getElem]
    intro a b ha hb' hab he
    have h2 : en[a]? = some en.toList[a] := by rw [← Array.getElem?_toList]; exact List.getElem?_eq_getElem ha
    have h3 : en[b]? = some en.toList[b] := by rw [← Array.getElem?_toList]; exact List.getElem?_eq_getElem hb'
    have := (hb b _ h3).2 a _ h2 he
    omega
  simp only [Instr.entry, getObj, Sem.run_bind, Sem.run, hg, hm, Result.andThen, hs, bne_self_eq_false, Bool.false_eq_true, if_false, hf]
  rfl
end

section
variable {R : Type} {E : Env}

theorem pickAll_ok {n : Nat} {g : Nat → Option R} {r : R} (h : pickAll n g = some r) (i : Nat) (hi : i < n) : g i = some r := by
  unfold pickAll at h
  split at h
  · rename_i hh
    simp only [Option.some.injEq] at h
    subst h
    exact Classical.choose_spec hh i hi
  · cases h
theorem pickAll_eq {n : Nat} {g : Nat → Option R} {r : R} (h0 : 0 < n) (h : ∀ i, i < n → g i = some r) : pickAll n g = some r := by
  unfold pickAll
  have hh : ∃ r, ∀ i, i < n → g i = some r := ⟨r, h⟩
  rw [dif_pos hh]
  have := Classical.choose_spec hh 0 h0
  rw [h 0 h0] at this
  exact this.symm

theorem xrange_ok {site : Nat} {t : TypeId} {x : V} {f : Fr} {m : Mem} {k : V → Fr → Mem → Option R} {r : R} (h : xrange E site t x f m k = some r) :
    ∃ f' m', k (.it site) f' m' = some r ∧ (m' site).isSome = true ∧ ∀ (G : Nat → Option (List PV)) (w0 : Base) (μ : Ro) (φ : Nat → Phys) (w : World) (ρ : Nat → Value) (y : Value), RelM E.P G w0 μ φ m w → FrOk E.P μ φ m f ρ → RepV E.P μ φ x y →
      ∃ w' y' μ' φ', (Instr.range t y).run E.P w = .ok y' w' ∧ RelM E.P G w0 μ' φ' m' w' ∧ FrOk E.P μ' φ' m' f' ρ ∧ RepV E.P μ' φ' (.it site) y' := by
  unfold xrange at h
  split at h
  · rename_i kt et hu
    split at h
    · rename_i id
      split at h
      · rename_i kt' es hm
        split at h
        · obtain ⟨f', m', hn, hk', hms, hdr, hfr⟩ := fresh_ok h
          refine ⟨f', m', hk', by simp [hms], fun G w0 μ φ w ρ y hM hF hx => ?_⟩
          obtain ⟨g, en, clock, kk, hg, hh, hs, hkk, hck, hbo, hv⟩ := hM.blk id _ hm
          obtain ⟨o1, o2⟩ := hM.own id _ g hm (.inl hg)
          cases hx with
          | om hg' =>
            rw [hg] at hg'; simp only [Option.some.injEq] at hg'; subst hg'
            have hM1 := hM.forget id
            have hM2 := hM1.addRo o1 (fun j b hj e => by
              obtain ⟨hne, b', hb', rfl⟩ := forget_some hj
              exact hne (hM.inj j id b' _ g hb' hm (owns_kill.1 e) (.inl hg)))
            have hmono := roAdd_mono hM1 (some g)
            have hF1 : FrOk E.P (roAdd μ w (some g)) φ (memDel (killM id m) id) (killF id f) ρ := (hF.forget id).mono hmono fun j hj => ⟨rfl, hj⟩
            have hrep : ∀ φ' : Nat → Phys, φ' site = (phy (some w.heap.size) 0 0 0) → (∀ j, (Blk.iter t es none).names j = true → φ' j = φ j) → RepB E.P (roAdd μ w (some g)) φ' (w.alloc (.mapIter (some g) clock #[] clock)) site (.iter t es none) := fun φ' hp _ => by
              refine ⟨w.heap.size, g, en, clock, #[], by rw [hp], alloc_new w _, by simp [roAdd, hh], hbo, (by rw [leftE_nil, Array.length_toList, hs]), fun i k v e h1 h2 => ?_, fun k v h => by cases h⟩
              have h2' : en[i]? = some e := by rw [← Array.getElem?_toList, ← leftE_nil en]; exact h2
              exact ⟨(hv i k v e h1 h2').1.mono hmono, (hv i k v e h1 h2').2.mono hmono⟩
            obtain ⟨φ', a1, a2, a3⟩ := hfr E.P G w0 _ φ w (w.alloc (.mapIter (some g) clock #[] clock)) ρ (phy (some w.heap.size) 0 0 0) hM2 hF1 (PutOk.alloc (o := .mapIter (some g) clock #[] clock) hM2 rfl hrep (by simp [Blk.names]))
            exact ⟨_, _, _, φ', run_range_map w t kt et g en clock hu hh, a2, a3, .it (by rw [a1])⟩
        · cases h
      · cases h
    · cases h
  · cases h

theorem eraseIdx_get {A : Type} {l : List A} {i j : Nat} {x : A} (h : (l.eraseIdx i)[j]? = some x) : l[if j < i then j else j + 1]? = some x := by
  rw [List.getElem?_eraseIdx] at h
  split at h
  · rename_i hlt; rw [if_pos hlt]; exact h
  · rename_i hlt; rw [if_neg hlt]; exact h
theorem xnext_ok {x : V} {f : Fr} {m : Mem} {k : V → Fr → Mem → Option R} {r : R} (h : xnext E x f m k = some r) (G : Nat → Option (List PV)) (w0 : Base) (μ : Ro) (φ : Nat → Phys) (w : World) (y : Value) (ty : TypeId) (hM : RelM E.P G w0 μ φ m w) (hx : RepV E.P μ φ x y) :
    ∃ v m' y' w', k v f m' = some r ∧ (∀ id, v.has id = false) ∧ Lives m m' ∧ (Instr.next y false ty).run E.P w = .ok y' w' ∧ RelM E.P G w0 μ φ m' w' ∧ RepV E.P μ φ v y' := by
  unfold xnext at h
  split at h
  · rename_i id
    split at h
    · rename_i t es cur hm
      split at h
      · rename_i kt et hu
        obtain ⟨g, mg, en, clock, seen, hg, hh, hmu, hbo, hln, hv, _⟩ := hM.blk id _ hm
        obtain ⟨o1, o2⟩ := hM.own id _ g hm (.inl hg)
        cases hx with
        | it hg' =>
          rw [hg] at hg'; simp only [Option.some.injEq] at hg'; subst hg'
          have hmg := hM.ro _ _ hmu
          rcases run_nextE (P := E.P) hh hmg hbo ty with ⟨hnil, hrun⟩ | ⟨j, e, w1, hj, hw1, hrun⟩
          · have : es = [] := by rw [hnil] at hln; exact List.eq_nil_of_length_eq_zero hln.symm
            subst this
            simp only [List.isEmpty_nil, if_true] at h
            refine ⟨_, m, _, w, h, by simp [V.has, hasL], Lives.refl m, hrun, hM, .tup rfl fun i p x hp hx => ?_⟩
            cases i with
            | zero => simp at hp hx; subst hp; subst hx; exact .pv .bool
            | succ i => simp at hp
          · have hjl : j < (leftE en seen).length := (List.getElem?_eq_some_iff.1 hj).1
            have hne : ¬ es.isEmpty = true := by
              have hpos : 0 < es.length := by omega
              intro e'
              rw [List.isEmpty_iff] at e'
              rw [e'] at hpos
              exact absurd hpos (Nat.lt_irrefl 0)
            rw [if_neg hne] at h
            have h := pickAll_ok h j (by omega)
            obtain ⟨e0, he0, h⟩ := Option.bind_eq_some_iff.1 h
            obtain ⟨qa, _, ha, ra, _⟩ := ldTy_ok h
            obtain ⟨qb, _, hb, rb, _⟩ := ldTy_ok ha
            obtain ⟨rk, rv⟩ := hv j e0.1 e0.2 e he0 hj
            refine ⟨_, _, _, _, hb, by simp [V.has, hasL], .set, hrun, ?_, .tup rfl fun i p x hp hx => ?_⟩
            · have hM1 : RelM E.P G w0 μ φ m w1 := by rcases hw1 with rfl | rfl; exact hM; exact hM.drew
              have hlt : g < w1.heap.size := by
                have : g < w.heap.size := (Array.getElem?_eq_some_iff.1 hh).1
                rcases hw1 with rfl | rfl <;> exact this
              refine hM1.write hm rfl hg (bel_putObj w1 g _) World.putObj_size (fun k hk => World.putObj_heap_other hk) ?_ rfl (by simp [Blk.names])
              refine ⟨g, mg, en, clock, seen.push e.born, hg, World.putObj_heap_same hlt, hmu, hbo, ?_, fun i k v e' h1 h2 => ?_, fun k v hc => ?_⟩
              · rw [leftE_push hbo hj, List.length_eraseIdx, List.length_eraseIdx, hln]
              · rw [leftE_push hbo hj] at h2
                exact hv _ k v e' (eraseIdx_get h1) (eraseIdx_get h2)
              · simp only [Option.some.injEq, Prod.mk.injEq] at hc
                obtain ⟨rfl, rfl⟩ := hc
                obtain ⟨i, hi⟩ := leftE_mem (List.mem_of_getElem? hj)
                exact ⟨i, e, hi, by simp, ra _ _ _ rk, rb _ _ _ rv⟩
            · match i with
              | 0 => simp at hp hx; subst hp; subst hx; exact .pv .bool
              | 1 => simp at hp hx; subst hp; subst hx; exact .pv (ra _ _ _ rk)
              | 2 => simp at hp hx; subst hp; subst hx; exact .pv (rb _ _ _ rv)
              | i + 3 => simp at hp
      · cases h
    · cases h
  · cases h
theorem xentry_ok {x : V} {m : Mem} {k : V → Mem → Option R} {r : R} (h : xentry x m k = some r) (P : Program) (G : Nat → Option (List PV)) (w0 : Base) (μ : Ro) (φ : Nat → Phys) (w : World) (y : Value) (hM : RelM P G w0 μ φ m w) (hx : RepV P μ φ x y) :
    ∃ v m' y', k v m' = some r ∧ (∀ id, v.has id = false) ∧ Lives m m' ∧ (Instr.entry y).run P w = .ok y' w ∧ RelM P G w0 μ φ m' w ∧ RepV P μ φ v y' := by
  unfold xentry at h
  split at h
  · rename_i id
    split at h
    · rename_i t es a b hm
      obtain ⟨g, mg, en, clock, seen, hg, hh, hmu, hbo, hln, hv, hcu⟩ := hM.blk id _ hm
      obtain ⟨i, e, hi, hs, ra, rb⟩ := hcu a b rfl
      cases hx with
      | it hg' =>
        rw [hg] at hg'; simp only [Option.some.injEq] at hg'; subst hg'
        refine ⟨_, _, _, h, by simp [V.has, hasL], .set, run_entryE hh (hM.ro _ _ hmu) hbo hi hs, ?_, .tup rfl fun i p x hp hx => ?_⟩
        · exact hM.write hm rfl hg (Bel.refl _ _) rfl (fun _ _ => rfl) ⟨g, mg, en, clock, seen, hg, hh, hmu, hbo, hln, hv, fun k v h => by cases h⟩ rfl (by simp [Blk.names])
        match i with
        | 0 => simp at hp hx; subst hp; subst hx; exact .pv ra
        | 1 => simp at hp hx; subst hp; subst hx; exact .pv rb
        | i + 2 => simp at hp
    · cases h
  · cases h
end
end Go.Ab

set_option linter.unusedVariables false
namespace Go.Ab

section
variable {P : Program} {G : Nat → Option (List PV)} {w0 : Base} {μ μ' : Ro} {φ φ' : Nat → Phys} {m m' : Mem} {w w' : World}
theorem kill2M_some {id j : Nat} {b : Blk} (h : kill2M id m j = some b) : ∃ b', m j = some b' ∧ b = kill2B id b' := by
  unfold kill2M at h
  cases hm : m j with
  | none => rw [hm] at h; cases h
  | some b' => rw [hm] at h; simp only [Option.some.injEq] at h; exact ⟨b', rfl, h.symm⟩
theorem kill2M_isSome {id j : Nat} : (kill2M id m j).isSome = (m j).isSome := by
  unfold kill2M; cases m j <;> rfl
theorem rowAt_kill2 (id : Nat) (b : Blk) : (kill2B id b).rowAt = b.rowAt := by cases b <;> rfl
theorem owns_kill2 {id : Nat} {b : Blk} {p : Phys} {g : Nat} : (kill2B id b).owns p g ↔ b.owns p g := by unfold Blk.owns; rw [rowAt_kill2]
theorem apart_kill2 {id : Nat} {b : Blk} {p : Phys} : (kill2B id b).apart p ↔ b.apart p := by unfold Blk.apart; rw [rowAt_kill2]
theorem kill2B_mut (id : Nat) (b : Blk) : (kill2B id b).mutable = b.mutable := by cases b <;> rfl
theorem hasL_kill2 {id j : Nat} {cs : List V} (h : hasL j (cs.map (kill2V id)) = true) : hasL j cs = true := by
  obtain ⟨v, hv, hh⟩ := hasL_iff.1 h
  obtain ⟨u, hu, rfl⟩ := List.mem_map.1 hv
  exact hasL_mem hu (has_kill2 hh).1
theorem RepB.kill2 {id j : Nat} {b : Blk} (h : RepB P μ φ w j b) : RepB P μ φ w j (kill2B id b) := by
  cases b with
  | box cs =>
    obtain ⟨g, c, T, hg, hh, hs, hv, h1, hln⟩ := h
    refine ⟨g, c, T, hg, hh, by simpa using hs, fun i v x hi hx => ?_, h1, by simpa using hln⟩
    simp only [List.getElem?_map, Option.map_eq_some_iff] at hi
    obtain ⟨u, hu, rfl⟩ := hi
    exact (hv i u x hu hx).kill2 id
  | _ => exact h
theorem RelM.forget2 (hM : RelM P G w0 μ φ m w) (id : Nat) : RelM P G w0 μ φ (kill2M id m) w := by
  refine ⟨hM.below, hM.ro, hM.glob, fun j b h => ?_, fun j b g h hg => ?_, fun i j b1 b2 g h1 h2 g1 g2 => ?_, fun j b h => ?_, fun j cs i h hh => ?_, hM.base, hM.keep, fun j st h => ?_⟩
  · obtain ⟨b', hb, rfl⟩ := kill2M_some h; exact (hM.blk j b' hb).kill2
  · obtain ⟨b', hb, rfl⟩ := kill2M_some h; rw [kill2B_mut]; exact hM.own j b' g hb (owns_kill2.1 hg)
  · obtain ⟨b1', hb1, rfl⟩ := kill2M_some h1
    obtain ⟨b2', hb2, rfl⟩ := kill2M_some h2
    exact hM.inj i j b1' b2' g hb1 hb2 (owns_kill2.1 g1) (owns_kill2.1 g2)
  · obtain ⟨b', hb, rfl⟩ := kill2M_some h; exact apart_kill2.2 (hM.apart j b' hb)
  · obtain ⟨b', hb, e⟩ := kill2M_some h
    cases b' with
    | box cs' =>
      simp only [kill2B, Blk.box.injEq] at e; subst e
      rw [kill2M_isSome]
      exact hM.liveB j cs' i hb (hasL_kill2 hh)
    | _ => simp [kill2B] at e
  · obtain ⟨b', hb, e⟩ := kill2M_some h
    cases b' with
    | loop st' =>
      simp only [kill2B, Blk.loop.injEq] at e; subst e
      exact hM.lps j st hb
    | _ => simp [kill2B] at e
theorem FrOk.forget2 {f : Fr} {ρ : Nat → Value} (h : FrOk P μ φ m f ρ) (id : Nat) : FrOk P μ φ (kill2M id m) (kill2F id f) ρ :=
  ⟨fun t => (h.fr t).kill2 id, fun t j hj => by rw [kill2M_isSome]; exact h.live t j (has_kill2 hj).1⟩
theorem RelM.km : ∀ {kl : Kl} {m : Mem}, RelM P G w0 μ φ m w → RelM P G w0 μ φ (Go.Ab.km kl m) w
  | [], _, h => h
  | (true, id) :: r, m, h => (RelM.km (kl := r) (m := memDel (killM id m) id) (h.forget id) :)
  | (false, id) :: r, m, h => (RelM.km (kl := r) (m := kill2M id m) (h.forget2 id) :)
theorem FrOk.km {ρ : Nat → Value} : ∀ {kl : Kl} {m : Mem} {f : Fr}, FrOk P μ φ m f ρ → FrOk P μ φ (Go.Ab.km kl m) (kf kl f) ρ
  | [], _, _, h => h
  | (true, id) :: r, m, f, h => (FrOk.km (kl := r) (m := memDel (killM id m) id) (f := killF id f) (h.forget id) :)
  | (false, id) :: r, m, f, h => (FrOk.km (kl := r) (m := kill2M id m) (f := kill2F id f) (h.forget2 id) :)
theorem RelM.reown (hM : RelM P G w0 μ φ m w) (nw : Nat → Nat → Nat) (hblk : ∀ j b', m' j = some b' → RepB P μ φ' w j b')
    (hsrc : ∀ j b' g, m' j = some b' → b'.owns (φ' j) g → ∃ k b, m k = some b ∧ b.owns (φ k) g ∧ (b'.mutable = true → b.mutable = true) ∧ j = nw g k)
    (hap : ∀ j b', m' j = some b' → b'.apart (φ' j)) (hlive : ∀ j cs id, m' j = some (.box cs) → hasL id cs = true → (m' id).isSome = true)
    (hlps : ∀ j st, m' j = some (.loop st) → m j = some (.loop st) ∧ (φ' j).g = (φ j).g) : RelM P G w0 μ φ' m' w := by
  refine ⟨hM.below, hM.ro, hM.glob, hblk, fun j b' g h hg => ?_, fun i j b1 b2 g h1 h2 g1 g2 => ?_, hap, hlive, hM.base, hM.keep, fun j st h => ?_⟩
  · obtain ⟨k, b, hk, ho, hmu, _⟩ := hsrc j b' g h hg
    obtain ⟨o1, o2⟩ := hM.own k b g hk ho
    exact ⟨o1, fun h => o2 (hmu h)⟩
  · obtain ⟨k1, c1, hk1, ho1, _, e1⟩ := hsrc i b1 g h1 g1
    obtain ⟨k2, c2, hk2, ho2, _, e2⟩ := hsrc j b2 g h2 g2
    rw [e1, e2, hM.inj k1 k2 c1 c2 g hk1 hk2 ho1 ho2]
  · obtain ⟨h1, h2⟩ := hlps j st h
    obtain ⟨g, rc, r1, r2, r3⟩ := hM.lps j st h1
    exact ⟨g, rc, by rw [h2]; exact r1, r2, r3⟩
def setRowP (p : Phys) (i off : Nat) (r : Ph0) : Phys := { p with row := fun a b => if a = i ∧ b = off then r else p.row a b }
theorem setRowP_same (p : Phys) (i off : Nat) (r : Ph0) : (setRowP p i off r).row i off = r := by simp [setRowP]
theorem setRowP_ne (p : Phys) {i off a b : Nat} (r : Ph0) (h : ¬(a = i ∧ b = off)) : (setRowP p i off r).row a b = p.row a b := by simp [setRowP, h]
theorem RepB.stable2 {id j : Nat} {b : Blk} (h : RepB P μ φ w j (kill2B id b)) (hj : j ≠ id) (h0 : (φ' id).toPh0 = (φ id).toPh0) (hφ : ∀ k, k ≠ id → φ' k = φ k) : RepB P μ φ' w j (kill2B id b) := by
  have e := hφ j hj
  cases b with
  | box cs =>
    obtain ⟨g, c, T, hg, hh, hs, hv, h1, hln⟩ := h
    refine ⟨g, c, T, by rw [e]; exact hg, hh, hs, fun i v x hi hx => ?_, h1, by rw [e]; exact hln⟩
    refine (hv i v x hi hx).mono2 (fun _ _ h => h) fun k hk => ?_
    by_cases hki : k = id
    · subst hki
      refine ⟨h0, fun h2 => ?_⟩
      simp only [List.getElem?_map, Option.map_eq_some_iff] at hi
      obtain ⟨u, hu, rfl⟩ := hi
      rw [(has_kill2 hk).2] at h2; cases h2
    · rw [hφ k hki]; exact ⟨rfl, fun _ => rfl⟩
  | arr sz et es => exact RepB.stable h (fun k hk => by simp [Blk.names, kill2B] at hk) e (fun _ _ h => h) (fun _ _ => rfl)
  | fro sz et es => exact RepB.stable h (fun k hk => by simp [Blk.names, kill2B] at hk) e (fun _ _ h => h) (fun _ _ => rfl)
  | map kt es => exact RepB.stable h (fun k hk => by simp [Blk.names, kill2B] at hk) e (fun _ _ h => h) (fun _ _ => rfl)
  | nest sz et es => exact RepB.stable h (fun k hk => by simp [Blk.names, kill2B] at hk) e (fun _ _ h => h) (fun _ _ => rfl)
  | mapN kt e0 es => exact RepB.stable h (fun k hk => by simp [Blk.names, kill2B] at hk) e (fun _ _ h => h) (fun _ _ => rfl)
  | loop st => exact RepB.stable h (fun k hk => by simp [Blk.names, kill2B] at hk) e (fun _ _ h => h) (fun _ _ => rfl)
  | iter t es cur => exact RepB.stable h (fun k hk => by simp [Blk.names, kill2B] at hk) e (fun _ _ h => h) (fun _ _ => rfl)
theorem FrOk.move2 {f : Fr} {ρ : Nat → Value} {id : Nat} (h : FrOk P μ φ m (kill2F id f) ρ) (h0 : (φ' id).toPh0 = (φ id).toPh0) (hφ : ∀ k, k ≠ id → φ' k = φ k) (hl : ∀ j, (m j).isSome = true → (m' j).isSome = true) : FrOk P μ φ' m' (kill2F id f) ρ := by
  refine ⟨fun t => (h.fr t).mono2 (fun _ _ h => h) fun k hk => ?_, fun t j hj => hl j (h.live t j hj)⟩
  by_cases hki : k = id
  · subst hki
    refine ⟨h0, fun h2 => ?_⟩
    have := (has_kill2 (show (kill2V k (f t)).has k = true from hk)).2
    rw [show kill2F k f t = kill2V k (f t) from rfl, this] at h2; cases h2
  · rw [hφ k hki]; exact ⟨rfl, fun _ => rfl⟩
theorem absorb_some {id id2 j : Nat} {b b' : Blk} (h : memSet (kill2M id (memDel (killM id2 m) id2)) id b j = some b') : (j = id ∧ b' = b) ∨ (j ≠ id ∧ j ≠ id2 ∧ ∃ c, m j = some c ∧ b' = kill2B id (killB id2 c)) := by
  by_cases e : j = id
  · subst e; rw [memSet_same] at h; simp only [Option.some.injEq] at h; exact .inl ⟨rfl, h.symm⟩
  · rw [memSet_ne e] at h
    obtain ⟨c1, h1, rfl⟩ := kill2M_some h
    obtain ⟨hne, c, hc, rfl⟩ := forget_some h1
    exact .inr ⟨e, hne, c, hc, rfl⟩
theorem rep_os {id : Nat} {x : Value} (h : RepV P μ φ (.os id) x) : RepV P μ (fun _ => ((φ id).toPh0).up) (.os 0) x := by
  cases h with
  | osN h => exact .osN h
  | os h => exact .os (id := 0) (φ := fun _ => ((φ id).toPh0).up) h
theorem RepArr.up {id sz : Nat} {et : TypeId} {es : List PV} (h : RepArr P μ φ w id sz et es) : RepArr P μ (fun _ => ((φ id).toPh0).up) w 0 sz et es := h

theorem RelM.absorb (hM : RelM P G w0 μ φ m w) {id id2 i off s s2 : Nat} {et et2 : TypeId} {es rs : List PV} {e q : PV} {x : Value} (hne : id2 ≠ id) (hm : m id = some (.nest s et es)) (hm2 : m id2 = some (.arr s2 et2 rs))
    (he : es[i]? = some e) (hcell : e.cells[off]? = some .bad) (hx : ∀ g c, (φ id).g = some g → w.heap[g]? = some (.cells c et (0, 0)) → c[i * s + off]? = some x) (hv : RepV P μ φ (.os id2) x)
    (hq : q.cells = e.cells.set off (.rsO s2 rs)) :
    RelM P G w0 μ (fun j => if j = id then setRowP (φ id) i off (φ id2).toPh0 else φ j) (memSet (kill2M id (memDel (killM id2 m) id2)) id (.nest s et (es.set i q))) w := by
  have hM1 := (hM.forget id2).forget2 id
  have hN : RepNest P μ φ w id s et es := hM.blk id _ hm
  have hA2 : RepArr P μ φ w id2 s2 et2 rs := hM.blk id2 _ hm2
  have hil : i < es.length := (List.getElem?_eq_some_iff.1 he).1
  have hol : off < e.cells.length := (List.getElem?_eq_some_iff.1 hcell).1
  -- the rows of the new block
  have hrow : ∀ a b, (Blk.nest s et (es.set i q)).rowAt a b = true → (a = i ∧ b = off) ∨ ((Blk.nest s et es).rowAt a b = true ∧ ¬(a = i ∧ b = off)) := by
    intro a b hr
    by_cases hab : a = i ∧ b = off
    · exact .inl hab
    · refine .inr ⟨?_, hab⟩
      rcases rowAt_of hr with ⟨_, _, _, e', s', rs', hb', h', hp'⟩ | ⟨_, _, _, _, _, _, hb', _⟩
      · simp only [Blk.nest.injEq] at hb'
        obtain ⟨rfl, rfl, rfl⟩ := hb'
        rcases set_get h' with ⟨rfl, rfl⟩ | ⟨hni, h'⟩
        · rw [hq] at hp'
          rcases set_get hp' with ⟨rfl, _⟩ | ⟨hnj, hp'⟩
          · exact absurd ⟨rfl, rfl⟩ hab
          · rw [rowAt_nest he hp']; rfl
        · rw [rowAt_nest h' hp']; rfl
      · cases hb'
  refine hM.reown (fun _ k => if k = id2 then id else k) (fun j b' hj => ?_) (fun j b' g hj ho => ?_) (fun j b' hj => ?_) (fun j cs k hj hk => ?_) (fun j st hj => ?_)
  · rcases absorb_some hj with ⟨rfl, rfl⟩ | ⟨h1, h2, c, hc, rfl⟩
    · show RepNest P μ (fun k => if k = j then setRowP (φ j) i off (φ id2).toPh0 else φ k) w j s et (es.set i q)
      refine RepNest.change (μ' := μ) (w' := w) (es' := es.set i q) hN (by simp) (fun i' e' h' => ?_) (by simp [setRowP]) (fun _ _ => rfl) (fun i' e' j' p' g c x' h' hp' hg hc hx' hold => ?_)
      · rcases set_get h' with ⟨_, rfl⟩ | ⟨_, h'⟩
        · rw [hq, List.length_set]; exact hN.2.2.2.2.1 i e he
        · exact hN.2.2.2.2.1 i' e' h'
      · simp only [if_true]
        by_cases hab : i' = i ∧ j' = off
        · obtain ⟨rfl, rfl⟩ := hab
          rw [setRowP_same]
          have e1 : e' = q := by
            rcases set_get h' with ⟨_, h⟩ | ⟨h, _⟩
            · exact h
            · exact absurd rfl h
          subst e1
          rw [hq] at hp'
          have e2 : p' = .rsO s2 rs := by
            rcases set_get hp' with ⟨_, h⟩ | ⟨h, _⟩
            · exact h
            · exact absurd rfl h
          subst e2
          have e3 : x' = x := by
            have := hx g c hg hc
            rw [hx'] at this; simpa using this
          subst e3
          exact ⟨⟨et2, hA2.up⟩, rep_os hv⟩
        · rw [setRowP_ne _ _ hab]
          rcases set_get h' with ⟨rfl, rfl⟩ | ⟨hni, h'⟩
          · rw [hq] at hp'
            rcases set_get hp' with ⟨rfl, _⟩ | ⟨hnj, hp'⟩
            · exact absurd ⟨rfl, rfl⟩ hab
            · exact hold e p' he hp'
          · exact hold e' p' h' hp'
    · have hb : RepB P μ φ w j (kill2B id (killB id2 c)) := (hM.blk j c hc).kill.kill2
      exact hb.stable2 h1 (by simp [setRowP]) fun k hk => by simp [hk]
  · rcases absorb_some hj with ⟨rfl, rfl⟩ | ⟨h1, h2, c, hc, rfl⟩
    · simp only [if_true] at ho
      rcases ho with ho | ⟨a, b, hr, ho⟩
      · exact ⟨j, _, hm, .inl ho, fun _ => rfl, by simp [hne.symm]⟩
      · rcases hrow a b hr with ⟨rfl, rfl⟩ | ⟨hr', hab⟩
        · rw [setRowP_same] at ho
          exact ⟨id2, _, hm2, .inl ho, fun _ => rfl, by simp⟩
        · rw [setRowP_ne _ _ hab] at ho
          exact ⟨j, _, hm, .inr ⟨a, b, hr', ho⟩, fun _ => rfl, by simp [hne.symm]⟩
    · simp only [h1, if_false] at ho
      exact ⟨j, c, hc, owns_kill.1 (owns_kill2.1 ho), fun h => by rw [kill2B_mut, killB_mut] at h; exact h, by simp [h2]⟩
  · rcases absorb_some hj with ⟨rfl, rfl⟩ | ⟨h1, h2, c, hc, rfl⟩
    · simp only [if_true]
      have hap := hM.apart j _ hm
      have new : ∀ g, (φ id2).g = some g → ¬ (Blk.nest s et es).owns (φ j) g := fun g hg ho => hne (hM.inj id2 j _ _ g hm2 hm (.inl hg) ho)
      intro a b g hr hg
      rcases hrow a b hr with ⟨rfl, rfl⟩ | ⟨hr', hab⟩
      · rw [setRowP_same] at hg
        refine ⟨fun h => new g hg (.inl h), fun a' b' hr2 hg2 => ?_⟩
        rcases hrow a' b' hr2 with h | ⟨hr3, hab'⟩
        · exact h
        · rw [setRowP_ne _ _ hab'] at hg2
          exact absurd (.inr ⟨a', b', hr3, hg2⟩) (new g hg)
      · rw [setRowP_ne _ _ hab] at hg
        obtain ⟨h3, h4⟩ := hap a b g hr' hg
        refine ⟨h3, fun a' b' hr2 hg2 => ?_⟩
        rcases hrow a' b' hr2 with ⟨rfl, rfl⟩ | ⟨hr3, hab'⟩
        · rw [setRowP_same] at hg2
          exact absurd (.inr ⟨a, b, hr', hg⟩) (new g hg2)
        · rw [setRowP_ne _ _ hab'] at hg2
          exact h4 a' b' hr3 hg2
    · simp only [h1, if_false]
      exact apart_kill2.2 (apart_kill.2 (hM.apart j c hc))
  · rcases absorb_some hj with ⟨rfl, hb⟩ | ⟨h1, h2, c, hc, hb⟩
    · cases hb
    · have hj' : kill2M id (memDel (killM id2 m) id2) j = some (.box cs) := by rw [memSet_ne h1] at hj; exact hj
      have := hM1.liveB j cs k hj' hk
      by_cases e : k = id
      · subst e; simp
      · rw [memSet_ne e]; exact this
  · rcases absorb_some hj with ⟨rfl, hb⟩ | ⟨h1, h2, c, hc, hb⟩
    · cases hb
    · cases c <;> first | (simp [kill2B, killB] at hb; done) | skip
      simp only [kill2B, killB, Blk.loop.injEq] at hb
      subst hb
      exact ⟨hc, by simp [h1]⟩
end
end Go.Ab

set_option linter.unusedVariables false
namespace Go.Ab
def mpos (k : PV) : List (PV × PV) → Option Nat
  | [] => none
  | (a, _) :: r => if peqL k.cells a.cells then some 0 else (mpos k r).map (· + 1)
def keysBad (es : List (PV × PV)) : List (PV × PV) := es.map fun x => (x.1, .bad)

theorem mpos_bad (k : PV) : ∀ es, mpos k (keysBad es) = mpos k es
  | [] => rfl
  | (a, u) :: r => by
    simp only [keysBad, List.map_cons, mpos]
    rw [← mpos_bad k r]; rfl
theorem mpos_lt {k : PV} : ∀ {es : List (PV × PV)} {j : Nat}, mpos k es = some j → ∃ a u, es[j]? = some (a, u) ∧ peqL k.cells a.cells = true
  | (a, u) :: r, j, h => by
    simp only [mpos] at h
    split at h
    · rename_i hp
      simp only [Option.some.injEq] at h; subst h
      exact ⟨a, u, rfl, hp⟩
    · obtain ⟨i, hi, rfl⟩ := Option.map_eq_some_iff.1 h
      simpa using mpos_lt hi
theorem mput_pos (k v : PV) : ∀ es, mput k v es = match mpos k es with | some j => es.set j (k, v) | none => es ++ [(k, v)]
  | [] => rfl
  | (a, u) :: r => by
    simp only [mput, mpos]
    split
    · rfl
    · rw [mput_pos k v r]
      cases mpos k r <;> rfl
theorem mtake_pos (k : PV) : ∀ es, mtake k es = match mpos k es with | some j => es.modify j fun x => (x.1, .bad) | none => es
  | [] => rfl
  | (a, u) :: r => by
    simp only [mtake, mpos]
    split
    · rfl
    · rw [mtake_pos k r]
      cases mpos k r <;> simp
theorem mrow_pos (sz : Nat) (k : PV) : ∀ es, mrow sz k es = match mpos k es with | some j => (es[j]?).bind fun x => asRow sz x.2 | none => some []
  | [] => rfl
  | (a, u) :: r => by
    simp only [mrow, mpos]
    split
    · simp
    · rw [mrow_pos sz k r]
      cases mpos k r <;> simp

theorem found_pos {k z : PV} {l : List (PV × PV)} {es : List MapEntry} {i : Nat} {r : Option (Nat × Value)} (h : Found k .nilp z (keysBad l) es i r) :
    (r = none ∧ mpos k l = none) ∨ ∃ j e, r = some (i + j, e.val) ∧ es[j]? = some e ∧ mpos k l = some j := by
  cases h with
  | none h1 h2 h3 =>
    refine .inl ⟨rfl, ?_⟩
    rw [mput_pos] at h3
    rw [← mpos_bad]
    cases hp : mpos k (keysBad l) with
    | none => rfl
    | some j =>
      rw [hp] at h3
      have := congrArg List.length h3
      simp at this
  | @some j a u e h1 h2 h3 h4 h5 h6 =>
    refine .inr ⟨j, e, rfl, h2, ?_⟩
    rw [mput_pos] at h6
    rw [← mpos_bad]
    have hlt : j < (keysBad l).length := (List.getElem?_eq_some_iff.1 h1).1
    cases hp : mpos k (keysBad l) with
    | none =>
      rw [hp] at h6
      have := congrArg List.length h6
      simp at this
    | some j' =>
      rw [hp] at h6
      simp only at h6
      obtain ⟨a', u', hj', _⟩ := mpos_lt hp
      have hlt' : j' < (keysBad l).length := (List.getElem?_eq_some_iff.1 hj').1
      have e1 : ((keysBad l).set j (k, .nilp))[j']? = some (k, .nilp) := by rw [← h6]; simp [hlt']
      rw [List.getElem?_set] at e1
      split at e1
      · rename_i h; rw [h]
      · exfalso
        simp only [keysBad, List.getElem?_map, Option.map_eq_some_iff] at e1
        obtain ⟨x, _, hx⟩ := e1
        simp at hx

section
variable {P : Program} {G : Nat → Option (List PV)} {w0 : Base} {μ μ' : Ro} {φ φ' : Nat → Phys} {m m' : Mem} {w w' : World}
def RepEnt (P : Program) (μ : Ro) (R : Ph0) (w : World) (e0 : TypeId) (v : PV) (x : Value) : Prop := match v with
  | .rsO s rs => RepArr P μ (fun _ => R.up) w 0 s e0 rs ∧ RepV P μ (fun _ => R.up) (.os 0) x
  | v => RepPV P μ v x
theorem RepEnt.pure {R : Ph0} {e0 : TypeId} {v : PV} {x : Value} (h : RepPV P μ v x) : RepEnt P μ R w e0 v x := by
  unfold RepEnt
  split
  · cases h
  · exact h
structure MapNOk (P : Program) (μ : Ro) (p : Phys) (w : World) (kt e0 : TypeId) (es : List (PV × PV)) (g : Nat) (en : Array MapEntry) (clock : Nat) (kk : List Kd) : Prop where
  pl : p.g = some g
  heap : w.heap[g]? = some (.map en clock)
  size : en.size = es.length
  kds : kdsOf P kt = some kk
  key : ∀ (i : Nat) k v, es[i]? = some (k, v) → keyOk P kt kk k = true
  born : BornOk en clock
  rep : ∀ (i : Nat) k v e, es[i]? = some (k, v) → en[i]? = some e → RepPV P μ k e.key ∧ RepEnt P μ (p.row i 0) w e0 v e.val
theorem mapN_iff {id : Nat} {kt e0 : TypeId} {es : List (PV × PV)} : RepB P μ φ w id (.mapN kt e0 es) ↔ ∃ g en clock kk, MapNOk P μ (φ id) w kt e0 es g en clock kk := by
  constructor
  · rintro ⟨g, en, clock, kk, h1, h2, h3, h4, h5, h6, h7⟩
    exact ⟨g, en, clock, kk, h1, h2, h3, h4, h5, h6, fun i k v e a b => h7 i k v e a b⟩
  · rintro ⟨g, en, clock, kk, h1, h2, h3, h4, h5, h6, h7⟩
    exact ⟨g, en, clock, kk, h1, h2, h3, h4, h5, h6, fun i k v e a b => h7 i k v e a b⟩
theorem MapNOk.ent {p : Phys} {kt e0 : TypeId} {es : List (PV × PV)} {g : Nat} {en : Array MapEntry} {clock : Nat} {kk : List Kd} (h : MapNOk P μ p w kt e0 es g en clock kk) : EntOk P μ kt kk (keysBad es) en.toList := by
  refine ⟨by simp [keysBad, h.size], fun i k v hi => ?_, fun i k v e hi he => ?_⟩
  · simp only [keysBad, List.getElem?_map, Option.map_eq_some_iff] at hi
    obtain ⟨⟨a, u⟩, hq, hx⟩ := hi
    simp only [Prod.mk.injEq] at hx
    obtain ⟨rfl, rfl⟩ := hx
    exact h.key i a u hq
  · simp only [keysBad, List.getElem?_map, Option.map_eq_some_iff] at hi
    obtain ⟨⟨a, u⟩, hq, hx⟩ := hi
    simp only [Prod.mk.injEq] at hx
    obtain ⟨rfl, rfl⟩ := hx
    exact ⟨(h.rep i a u e hq (by simpa using he)).1, .bad⟩

theorem run_lookup_pos {t kt et : TypeId} {ks : List Kd} {key : PV} {zv yi : Value} {g clock : Nat} {en : Array MapEntry} {l : List (PV × PV)} (hu : P.underlying t = some (.map kt et)) (hk : kdsOf P kt = some ks) (hkey : keyOk P kt ks key = true)
    (hyi : RepPV P μ key yi) (hg : w.heap[g]? = some (.map en clock)) (hE : EntOk P μ kt ks (keysBad l) en.toList) (hz : (zeroValue et).run P w = .ok zv w) :
    (mpos key l = none ∧ (Instr.lookup t (.map (some g)) yi false).run P w = .ok zv w) ∨ ∃ j e, mpos key l = some j ∧ en[j]? = some e ∧ (Instr.lookup t (.map (some g)) yi false).run P w = .ok e.val w := by
  have hk8 := kdsOf_kds hk
  obtain ⟨hc, hv⟩ := keyOk_val hkey hyi
  obtain ⟨r, r1, r2⟩ := run_findKey_kds (v := .nilp) (z := .bad) hk8 hc w hE
  have h1 := run_checkKey_kds 8 kt ks hk8 9992 w en.isEmpty key.cells hc
  have hgo := Go.MapKept.run_getObj_map (P := P) hg
  have h1' : (Instr.checkKey en.isEmpty 10000 kt (mkVal P kt key.cells)).run P w = .ok () w := h1
  rw [hv]
  unfold Instr.lookup
  simp only [Sem.run_bind, run_underlying hu, Result.andThen_ok, Sem.run_pure, hgo]
  rcases found_pos r2 with ⟨rfl, h⟩ | ⟨j, e, rfl, he, h⟩
  · exact .inl ⟨h, by simp [h1', r1, hz]⟩
  · exact .inr ⟨j, e, h, by simpa using he, by simp [h1', r1]⟩
end

section
variable {R : Type} {E : Env}
theorem zeroV_nils {t : TypeId} (h : zeroV E.P t = some .nils) (w : World) : (zeroValue t).run E.P w = .ok (.slice none 0 0) w := by
  unfold zeroV at h
  obtain ⟨c, hc, h⟩ := Option.map_eq_some_iff.1 h
  obtain ⟨i, hi, hz⟩ := Option.bind_eq_some_iff.1 hc
  have := ofVal_rep (P := E.P) (μ := fun _ => none) (φ := fun _ => default) c
  rw [h] at this
  cases this
  exact run_zeroValue hi hz
theorem xtake_ok {site : Nat} {t : TypeId} {x ix : V} {m : Mem} {k : V → Mem → Foot → Option R} {r : R} (h : xtake E site t x ix m k = some r) :
    ∃ id b1 b2 m', m' = wrM [(id, b1), (site, b2)] m ∧ k (.os site) m' [(true, id), (true, site)] = some r ∧ m site = none ∧ b2.names = (fun _ => false) ∧ b1.names = (fun _ => false) ∧ (m id).isSome = true ∧
    (∀ m2 : Mem, m2 id = m id → m2 site = none → ∀ (R' : Type) (k' : V → Mem → Foot → Option R'), xtake E site t x ix m2 k' = k' (.os site) (wrM [(id, b1), (site, b2)] m2) [(true, id), (true, site)]) ∧
    ∀ (G : Nat → Option (List PV)) (w0 : Base) (μ : Ro) (φ : Nat → Phys) (w : World) (f : Fr) (ρ : Nat → Value) (y yi : Value), RelM E.P G w0 μ φ m w → FrOk E.P μ φ m f ρ → RepV E.P μ φ x y → RepV E.P μ φ ix yi →
      ∃ u φ', (Instr.lookup t y yi false).run E.P w = .ok u w ∧ RelM E.P G w0 μ φ' m' w ∧ FrOk E.P μ φ' m' f ρ ∧ RepV E.P μ φ' (.os site) u := by
  unfold xtake at h
  split at h
  · rename_i kt et hu
    split at h
    · rename_i e hue
      split at h
      · rename_i id hz
        split at h
        · rename_i kt' e' es hm hs
          split at h
          · rename_i hc
            obtain ⟨rfl, rfl, hpos⟩ := hc
            obtain ⟨key, hkey, h⟩ := Option.bind_eq_some_iff.1 h
            obtain ⟨rs, hrs, h⟩ := Option.bind_eq_some_iff.1 h
            obtain ⟨ks, k1, k2, k3⟩ := keyOf_ok hkey
            have hne : site ≠ id := fun e => by subst e; rw [hs] at hm; cases hm
            refine ⟨id, .mapN kt' e' (mtake key es), .arr (csz E.P e') e' rs, _, rfl, h, hs, rfl, rfl, by rw [hm]; rfl, fun m2 h1 h2 R' k' => ?_, fun G w0 μ φ w f ρ y yi hM hF hx hi => ?_⟩
            · simp only [xtake, hu, hue, hz, h1, h2, hm, hkey, hrs, Option.bind_some, hpos, and_self, if_true]; rfl
            · obtain ⟨g, en, clock, kk, hN⟩ := mapN_iff.1 (hM.blk id _ hm)
              have hkk := hN.kds
              rw [k1] at hkk; simp only [Option.some.injEq] at hkk; subst hkk
              cases hx with
              | om hg' =>
                rw [hN.pl] at hg'; simp only [Option.some.injEq] at hg'; subst hg'
                have hlk := run_lookup_pos hu k1 k2 (k3 μ φ yi hi) hN.heap hN.ent (zeroV_nils hz w)
                -- the rows of the map behind it
                have hsub : ∀ i off, (Blk.mapN kt' e' (mtake key es)).rowAt i off = true → (Blk.mapN kt' e' es).rowAt i off = true ∧ mpos key es ≠ some i := by
                  intro i off hr
                  rcases rowAt_of hr with ⟨_, _, _, _, _, _, hb, _⟩ | ⟨_, _, _, k0, s0, rs0, hb, rfl, he⟩
                  · cases hb
                  · simp only [Blk.mapN.injEq] at hb
                    obtain ⟨rfl, rfl, rfl⟩ := hb
                    rw [mtake_pos] at he
                    cases hp : mpos key es with
                    | none =>
                      rw [hp] at he
                      simp only at he
                      exact ⟨by rw [rowAt_mapN he]; rfl, by simp⟩
                    | some j =>
                      rw [hp] at he
                      simp only [List.getElem?_modify] at he
                      split at he
                      · rename_i hji
                        exfalso
                        obtain ⟨x0, _, hx0⟩ := Option.map_eq_some_iff.1 he
                        simp at hx0
                      · rename_i hji
                        have he : es[i]? = some (k0, PV.rsO s0 rs0) := by simpa using he
                        exact ⟨by rw [rowAt_mapN he]; rfl, fun h => hji (by simpa using h)⟩
                -- the map without it
                have hM1 : RelM E.P G w0 μ φ (memSet m id (.mapN kt' e' (mtake key es))) w := by
                  refine hM.write hm rfl hN.pl (Bel.refl _ _) rfl (fun _ _ => rfl) (mapN_iff.2 ⟨g, en, clock, ks, hN.pl, hN.heap, ?_, k1, fun i k0 v0 h0 => ?_, hN.born, fun i k0 v0 e0 h0 he0 => ?_⟩) rfl (by simp [Blk.names]) (fun st h => by cases h) (fun i off hr => (hsub i off hr).1)
                  · rw [hN.size, mtake_pos]; cases mpos key es <;> simp
                  · rw [mtake_pos] at h0
                    cases hp : mpos key es with
                    | none => rw [hp] at h0; exact hN.key i k0 v0 h0
                    | some j =>
                      rw [hp] at h0
                      simp only [List.getElem?_modify] at h0
                      obtain ⟨x0, hx0, hq⟩ := Option.map_eq_some_iff.1 h0
                      obtain ⟨xa, xu⟩ := x0
                      split at hq
                      · simp only [Prod.mk.injEq] at hq; rw [← hq.1]; exact hN.key i xa xu hx0
                      · simp only [id_eq, Prod.mk.injEq] at hq; rw [← hq.1]; exact hN.key i xa xu hx0
                  · rw [mtake_pos] at h0
                    cases hp : mpos key es with
                    | none => rw [hp] at h0; exact hN.rep i k0 v0 e0 h0 he0
                    | some j =>
                      rw [hp] at h0
                      simp only [List.getElem?_modify] at h0
                      obtain ⟨x0, hx0, hq⟩ := Option.map_eq_some_iff.1 h0
                      obtain ⟨xa, xu⟩ := x0
                      obtain ⟨q1, q2⟩ := hN.rep i xa xu e0 hx0 he0
                      split at hq
                      · simp only [Prod.mk.injEq] at hq; obtain ⟨rfl, rfl⟩ := hq; exact ⟨q1, .pure .bad⟩
                      · simp only [id_eq, Prod.mk.injEq] at hq; obtain ⟨rfl, rfl⟩ := hq; exact ⟨q1, q2⟩
                -- the slice in its place
                have key2 : ∀ (ph : Phys) (u : Value), RepArr E.P μ (fun _ => ph) w 0 (csz E.P e') e' rs → RepV E.P μ (fun _ => ph) (.os 0) u → (∀ g', ph.g = some g' → ∃ j, mpos key es = some j ∧ (Blk.mapN kt' e' es).rowAt j 0 = true ∧ ((φ id).row j 0).g = some g') →
                    ∃ φ', RelM E.P G w0 μ φ' (wrM [(id, .mapN kt' e' (mtake key es)), (site, .arr (csz E.P e') e' rs)] m) w ∧ FrOk E.P μ φ' (wrM [(id, .mapN kt' e' (mtake key es)), (site, .arr (csz E.P e') e' rs)] m) f ρ ∧ RepV E.P μ φ' (.os site) u := by
                  intro ph u hA hV hgo
                  have hns : ∀ j, (m j).isSome = true → j ≠ site := fun j hj e => by subst e; rw [hs] at hj; cases hj
                  refine ⟨fun i => if i = site then ph else φ i, ?_, ?_, ?_⟩
                  · refine hM1.put (by rw [memSet_ne hne]; exact hs) (Bel.refl _ _) hM.ro (fun _ _ _ _ _ => rfl) (fun g' hg' => ?_) (apart_of arr_norow) ?_ (by simp [Blk.names]) (fun st h => by cases h)
                    · have hg' := owns_of arr_norow hg'
                      obtain ⟨j, hj, hr, hjg⟩ := hgo g' hg'
                      obtain ⟨o1, o2⟩ := hM.own id _ g' hm (.inr ⟨j, 0, hr, hjg⟩)
                      refine ⟨o1, o2 rfl, fun i b' hi ho => ?_⟩
                      by_cases hii : i = id
                      · subst hii
                        rw [memSet_same] at hi; simp only [Option.some.injEq] at hi; subst hi
                        obtain ⟨a1, a2⟩ := hM.apart i _ hm j 0 g' hr hjg
                        rcases ho with ho | ⟨i', off', hr', ho⟩
                        · exact a1 ho
                        · obtain ⟨h3, h4⟩ := hsub i' off' hr'
                          exact h4 (by rw [hj, (a2 i' off' h3 ho).1])
                      · rw [memSet_ne hii] at hi
                        exact hii (hM.inj i id _ _ g' hi hm ho (.inr ⟨j, 0, hr, hjg⟩))
                    · exact RepArr.move (φ' := fun i => if i = site then ph else φ i) (j := site) hA (by simp) (fun _ _ h => h)
                  · refine hF.mono (fun _ _ h => h) fun j hj => ⟨by simp [hns j hj], ?_⟩
                    show (memSet (memSet m id _) site _ j).isSome = true
                    rw [memSet_ne (hns j hj)]
                    by_cases hji : j = id
                    · subst hji; simp
                    · rw [memSet_ne hji]; exact hj
                  · cases hV with
                    | osN h => exact .osN (by simpa using h)
                    | @os _ g0 h =>
                      have := RepV.os (P := E.P) (μ := μ) (φ := fun i => if i = site then ph else φ i) (id := site) (g := g0) (by simpa using h)
                      simpa using this
                rw [mrow_pos] at hrs
                rcases hlk with ⟨hp, hrun⟩ | ⟨j, en0, hp, hen, hrun⟩
                · rw [hp] at hrs
                  simp only [Option.some.injEq] at hrs
                  subst hrs
                  obtain ⟨φ', a1, a2, a3⟩ := key2 (phy none 0 0 (csz E.P e')) (.slice none 0 0) ⟨rfl, rfl, rfl, hpos, by simp, by simp [maxLen], ⟨rfl, rfl⟩⟩ (.osN rfl) (fun g' hg' => by cases hg')
                  exact ⟨_, φ', hrun, a1, a2, a3⟩
                · rw [hp] at hrs
                  obtain ⟨x0, hx0, hrow⟩ := Option.bind_eq_some_iff.1 hrs
                  obtain ⟨xa, xu⟩ := x0
                  have hxu := asRow_ok hrow
                  simp only at hxu
                  subst hxu
                  obtain ⟨_, q2⟩ := hN.rep j xa _ en0 hx0 hen
                  obtain ⟨φ', a1, a2, a3⟩ := key2 ((φ id).row j 0).up en0.val q2.1 q2.2 (fun g' hg' => ⟨j, hp, by rw [rowAt_mapN hx0]; rfl, hg'⟩)
                  exact ⟨_, φ', hrun, a1, a2, a3⟩
          · cases h
        · cases h
      · cases h
    · cases h
  · cases h
end
end Go.Ab

set_option linter.unusedVariables false
namespace Go.Ab

theorem take1_ok {m : Mem} : ∀ {cs : List V} {j0 : Nat} {ps : List PV} {tk : Option (Nat × Nat)}, take1 m j0 cs = some (ps, tk) → ps.length = cs.length ∧
    (tk = none → ∀ (i : Nat) p, ps[i]? = some p → ∃ v, cs[i]? = some v ∧ frz noMem 1 v = some p) ∧
    ∀ j id2, tk = some (j, id2) → ∃ l s2 et2 rs, cs[l]? = some (.os id2) ∧ m id2 = some (.arr s2 et2 rs) ∧ ps[l]? = some (.rsO s2 rs) ∧ ∀ (i : Nat) p, i ≠ l → ps[i]? = some p → ∃ v, cs[i]? = some v ∧ frz noMem 1 v = some p
  | [], j0, ps, tk, h => by
    simp only [take1, Option.some.injEq, Prod.mk.injEq] at h
    obtain ⟨rfl, rfl⟩ := h
    exact ⟨rfl, fun _ i p hp => by simp at hp, fun j id2 h => by cases h⟩
  | v :: r, j0, ps, tk, h => by
    have plain : ∀ {p : PV}, frz noMem 1 v = some p → (match take1 m (j0 + 1) r with
        | some (ps, t) => some (p :: ps, t)
        | none => none) = some (ps, tk) → ps.length = (v :: r).length ∧
        (tk = none → ∀ (i : Nat) p, ps[i]? = some p → ∃ u, (v :: r)[i]? = some u ∧ frz noMem 1 u = some p) ∧
        ∀ j id2, tk = some (j, id2) → ∃ l s2 et2 rs, (v :: r)[l]? = some (.os id2) ∧ m id2 = some (.arr s2 et2 rs) ∧ ps[l]? = some (.rsO s2 rs) ∧ ∀ (i : Nat) p, i ≠ l → ps[i]? = some p → ∃ u, (v :: r)[i]? = some u ∧ frz noMem 1 u = some p := by
      intro p hp h
      split at h
      · rename_i ps' t ht
        simp only [Option.some.injEq, Prod.mk.injEq] at h
        obtain ⟨rfl, rfl⟩ := h
        obtain ⟨h1, h2, h3⟩ := take1_ok ht
        refine ⟨by simp [h1], fun hn i q hq => ?_, fun j id2 hj => ?_⟩
        · cases i with
          | zero => simp at hq; subst hq; exact ⟨v, rfl, hp⟩
          | succ i => simpa using h2 hn i q (by simpa using hq)
        · obtain ⟨l, s2, et2, rs, a1, a2, a3, a4⟩ := h3 j id2 hj
          refine ⟨l + 1, s2, et2, rs, by simpa using a1, a2, by simpa using a3, fun i q hi hq => ?_⟩
          cases i with
          | zero => simp at hq; subst hq; exact ⟨v, rfl, hp⟩
          | succ i => simpa using a4 i q (by omega) (by simpa using hq)
      · cases h
    unfold take1 at h
    split at h
    · rename_i heq; cases heq
    · rename_i j id r' heq
      simp only [List.cons.injEq] at heq
      obtain ⟨rfl, rfl⟩ := heq
      split at h
      · rename_i s et es hm
        split at h
        · rename_i ps' ht
          simp only [Option.some.injEq, Prod.mk.injEq] at h
          obtain ⟨rfl, rfl⟩ := h
          obtain ⟨h1, h2, _⟩ := take1_ok ht
          refine ⟨by simp [h1], fun hn => (nomatch hn), fun j id2 hj => ?_⟩
          simp only [Option.some.injEq, Prod.mk.injEq] at hj
          obtain ⟨rfl, rfl⟩ := hj
          refine ⟨0, s, et, es, rfl, hm, rfl, fun i q hi hq => ?_⟩
          cases i with
          | zero => exact absurd rfl hi
          | succ i => simpa using h2 rfl i q (by simpa using hq)
        · cases h
      · cases h
    · rename_i j v' r' _ heq
      simp only [List.cons.injEq] at heq
      obtain ⟨rfl, rfl⟩ := heq
      split at h
      · rename_i p hp
        exact plain hp h
      · cases h

section
variable {P : Program} {G : Nat → Option (List PV)} {w0 : Base} {μ μ' : Ro} {φ φ' : Nat → Phys} {m m' : Mem} {w w' : World}
theorem take1_elem {v : V} {n j id2 : Nat} {cs : List V} {ps : List PV} (hc : toCells n v = some cs) (h : take1 m 0 cs = some (ps, some (j, id2))) :
    ∃ l s2 et2 rs, m id2 = some (.arr s2 et2 rs) ∧ ps[l]? = some (.rsO s2 rs) ∧ ps.length = n ∧ v.has id2 = true ∧
      ∀ (P : Program) (μ : Ro) (φ : Nat → Phys) (x : Value), RepV P μ φ v x → x.cells.size = n ∧ (∀ (i : Nat) (y : Value), x.cells[i]? = some y → y.oneCell' = true) ∧ (∀ (i : Nat) p y, i ≠ l → ps[i]? = some p → x.cells[i]? = some y → RepPV P μ p y) ∧ ∃ y, x.cells[l]? = some y ∧ RepV P μ φ (.os id2) y := by
  obtain ⟨t1, _, t3⟩ := take1_ok h
  obtain ⟨l, s2, et2, rs, a1, a2, a3, a4⟩ := t3 j id2 rfl
  obtain ⟨n1, n2, n3⟩ := toCells_ok hc
  refine ⟨l, s2, et2, rs, a2, a3, by rw [t1, n1], n2 id2 (hasL_mem (List.mem_of_getElem? a1) (by simp [V.has])), fun P μ φ x hx => ?_⟩
  obtain ⟨x1, x2, x3⟩ := n3 P μ φ x hx
  refine ⟨x1, x3, fun i p y hi hp hy => ?_, ?_⟩
  · obtain ⟨u, hu, hf⟩ := a4 i p hi hp
    exact frz_pure 1 hf (x2 i u y hu hy)
  · have hl : l < x.cells.size := by rw [x1, ← n1]; exact (List.getElem?_eq_some_iff.1 a1).1
    exact ⟨x.cells[l], Array.getElem?_eq_getElem hl, x2 l _ _ a1 (Array.getElem?_eq_getElem hl)⟩

theorem elem_splice {s off n : Nat} {e : PV} {ps : List PV} (hn : ps.length = n) (hb : off + n ≤ s) (h0 : 0 < n) (ha : s = 1 → ∀ p, ps.head? = some p → ∀ cs, p ≠ .agg cs) :
    (if s = 1 then ps.headD .bad else PV.agg (splice (elemCells s e) off ps)).cells = splice (elemCells s e) off ps := by
  split
  · rename_i h1
    subst h1
    have e1 : off = 0 := by omega
    have e2 : n = 1 := by omega
    subst e1; subst e2
    match ps, hn with
    | [p], _ =>
      have := ha rfl p rfl
      have hp : p.cells = [p] := by cases p <;> first | rfl | exact absurd rfl (this _)
      simp only [List.headD_cons, hp, splice_eq, List.take_zero, List.nil_append, List.length_cons, List.length_nil]
      rw [List.drop_of_length_le (by rw [elemCells_length]; exact Nat.le_refl _)]; rfl
  · rfl
theorem splice_set {T : Type} {cs ps : List T} {off l : Nat} {x : T} (hl : l < ps.length) (hb : off + ps.length ≤ cs.length) : splice cs off (ps.set l x) = (splice cs off ps).set (off + l) x := by
  have hto : (cs.take off).length = off := by simp; omega
  rw [splice_eq, splice_eq, List.length_set, List.append_assoc, List.append_assoc, List.set_append, if_neg (by omega), List.set_append, if_pos (by omega)]
  rw [show off + l - (cs.take off).length = l by omega]
theorem forget_set {id id2 : Nat} {B X : Blk} (hne : id2 ≠ id) : memSet (kill2M id (memDel (killM id2 (memSet m id B)) id2)) id X = memSet (kill2M id (memDel (killM id2 m) id2)) id X := by
  funext t
  by_cases h : t = id
  · subst h; simp
  · rw [memSet_ne h, memSet_ne h]
    unfold kill2M
    by_cases h2 : t = id2
    · subst h2; simp
    · rw [memDel_ne h2, memDel_ne h2]
      unfold killM
      rw [memSet_ne h]
end

section
variable {R : Type} {E : Env}
theorem st_sound {t : TypeId} {v : V} {id i off s id2 j : Nat} {et : TypeId} {es ps : List PV} {cs : List V} {e : PV} {m : Mem} (hm : m id = some (.nest s et es)) (hc : toCells (csz E.P t) v = some cs) (ht : take1 m 0 cs = some (ps, some (j, id2)))
    (hb : off + csz E.P t ≤ s) (h0 : 0 < csz E.P t) (hne : id2 ≠ id) (he : es[i]? = some e)
    {G : Nat → Option (List PV)} {w0 : Base} {μ : Ro} {φ : Nat → Phys} {w : World} {f : Fr} {ρ : Nat → Value} {ya yx : Value} (hM : RelM E.P G w0 μ φ m w) (hF : FrOk E.P μ φ m f ρ) (ha : RepV E.P μ φ (.oe id i off) ya) (hx : RepV E.P μ φ v yx) :
    ∃ w' φ', (Instr.storeAt t ya yx).run E.P w = .ok () w' ∧ RelM E.P G w0 μ φ' (wrM [(id, .nest s et (es.set i (if s = 1 then ps.headD .bad else .agg (splice (elemCells s e) off ps))))] (km [(true, id2), (false, id)] m)) w' ∧
      FrOk E.P μ φ' (wrM [(id, .nest s et (es.set i (if s = 1 then ps.headD .bad else .agg (splice (elemCells s e) off ps))))] (km [(true, id2), (false, id)] m)) (kf [(true, id2), (false, id)] f) ρ := by
  obtain ⟨l, s2, et2, rs, hm2, hrow, hpl, hvid, hrep⟩ := take1_elem hc ht
  obtain ⟨x1, x2, x3, y, hy, hvy⟩ := hrep E.P μ φ yx hx
  have hll : l < ps.length := (List.getElem?_eq_some_iff.1 hrow).1
  have hN : RepNest E.P μ φ w id s et es := hM.blk id _ hm
  have hel := hN.2.2.2.2.1 i e he
  have hsl : (elemCells s e).length = s := elemCells_length _ _
  have hps : ps = (ps.set l .bad).set l (.rsO s2 rs) := by
    rw [List.set_set]
    apply List.ext_getElem?
    intro a
    rw [List.getElem?_set]
    split
    · rename_i e1; subst e1; first | exact hrow | (rw [if_pos hll]; exact hrow)
    · rfl
  have hset : ∀ (a : Nat) p, (ps.set l .bad)[a]? = some p → (a = l ∧ p = .bad) ∨ (a ≠ l ∧ ps[a]? = some p) := fun a p h => set_get h
  have hE : ElemOk E.P μ (csz E.P t) (.agg (ps.set l .bad)) yx := by
    refine ⟨by simp [PV.cells, hpl], x1, fun a p z hp hz => ?_, x2⟩
    rcases hset a p (by simpa [PV.cells] using hp) with ⟨_, rfl⟩ | ⟨h1, h2⟩
    · exact .bad
    · exact x3 a p z h1 h2 hz
  have one : s = 1 → ps.length = 1 := fun h => by omega
  have hq : (if s = 1 then ps.headD .bad else PV.agg (splice (elemCells s e) off ps)).cells = splice (elemCells s e) off ps := elem_splice hpl hb h0 fun h1 p hp cs' => by
    have hl0 : l = 0 := by have := one h1; omega
    subst hl0
    rw [List.head?_eq_getElem?, hrow] at hp
    simp only [Option.some.injEq] at hp; subst hp; simp
  have hq' : (if s = 1 then (ps.set l .bad).headD .bad else PV.agg (splice (elemCells s e) off (ps.set l .bad))).cells = splice (elemCells s e) off (ps.set l .bad) := elem_splice (by simpa using hpl) hb h0 fun h1 p hp cs' => by
    have hl0 : l = 0 := by have := one h1; omega
    subst hl0
    rw [List.head?_eq_getElem?, List.getElem?_set, if_pos rfl, if_pos hll] at hp
    simp only [Option.some.injEq] at hp; subst hp; simp
  generalize (if s = 1 then ps.headD .bad else PV.agg (splice (elemCells s e) off ps)) = q at hq ⊢
  generalize (if s = 1 then (ps.set l .bad).headD .bad else PV.agg (splice (elemCells s e) off (ps.set l .bad))) = q' at hq'
  cases ha with
  | @oe _ _ _ g hg =>
    obtain ⟨c, T, hh, hfit, hA', hrw⟩ := RepNest.set (q := q') hN (hM.apart id _ hm) hg he hE hb (by rw [hq']; rfl)
    have hsz : (φ id).sz = s := hN.2.1
    have hi := info_of_und' (P := E.P) (t := t) (by omega)
    have hM1 : RelM E.P G w0 μ φ (memSet m id (.nest s et (es.set i q'))) (w.setRow g (splice c.toList (i * s + off) yx.cells.toList).toArray) :=
      hM.write hm rfl hg (Bel.setRow (Nat.le_refl _)) setRow_size (fun k hk => setRow_heap_ne hk) hA' rfl (fun j hj => by simp [Blk.names] at hj) (fun st h => by cases h) hrw
    have hil : i < es.length := (List.getElem?_eq_some_iff.1 he).1
    have hset2 : q.cells = q'.cells.set (off + l) (.rsO s2 rs) := by
      rw [hq, hq', ← splice_set (by simpa using hll) (by simp [hsl, hpl]; omega), ← hps]
    have hcell : q'.cells[off + l]? = some .bad := by
      rw [hq', splice_set hll (by rw [hsl, hpl]; exact hb), List.getElem?_set, if_pos rfl, if_pos]
      rw [splice_length (by rw [hsl, hpl]; exact hb), hsl]; omega
    have hab := RelM.absorb hM1 (id := id) (id2 := id2) (i := i) (off := off + l) (e := q') (q := q) (x := y) hne (memSet_same _ _ _) (by rw [memSet_ne hne]; exact hm2) (by simp [hil]) hcell (fun g0 c0 hg0 hc0 => by
      rw [hg] at hg0; simp only [Option.some.injEq] at hg0; subst hg0
      rw [setRow_heap w g c _ T (0, 0) hh] at hc0
      simp only [Option.some.injEq, Obj.cells.injEq] at hc0
      obtain ⟨rfl, _⟩ := hc0
      rw [List.getElem?_toArray, splice_eq]
      have hlt : (c.toList.take (i * s + off)).length = i * s + off := by simp; omega
      have hxl : l < yx.cells.toList.length := by simp only [Array.length_toList]; rw [x1]; omega
      rw [List.append_assoc, List.getElem?_append_right (by omega), hlt, show i * s + (off + l) - (i * s + off) = l by omega, List.getElem?_append_left hxl]
      simpa using hy) hvy hset2
    rw [List.set_set, forget_set hne] at hab
    refine ⟨_, _, by rw [hsz]; exact run_storeVar_at hE.size hi hh hfit hE.one, hab, ?_⟩
    have hF1 : FrOk E.P μ φ (memSet m id (.nest s et (es.set i q'))) f ρ := hF.lives (fun _ _ h => h) .set
    have hF2 := (hF1.forget id2).forget2 id
    refine hF2.move2 (by simp [setRowP]) (fun k hk => by simp [hk]) fun k hk => ?_
    show (memSet (kill2M id (memDel (killM id2 m) id2)) id _ k).isSome = true
    by_cases e1 : k = id
    · subst e1; simp
    · rw [memSet_ne e1]
      rw [kill2M_isSome] at hk ⊢
      by_cases e2 : k = id2
      · subst e2; simp at hk
      · rw [memDel_ne e2] at hk ⊢
        simp only [killM, memSet_ne e1] at hk ⊢
        exact hk
end
end Go.Ab

set_option linter.unusedVariables false
namespace Go.Ab

section
variable {R : Type} {E : Env}
theorem lit_sound {t e : TypeId} {v : V} {j id2 site : Nat} {cs : List V} {ps : List PV} {p : PV} {m : Mem} (hu : E.P.underlying t = some (.slice e)) (hc : toCells (csz E.P e) v = some cs) (ht : take1 m 0 cs = some (ps, some (j, id2))) (hs : m site = none)
    (hp : elemOf (isAggT E.P e) ps = some p) (hpos : 0 < csz E.P e) (hsmall : csz E.P e ≤ 16777216) (hz : (zeroCellsV E e).isSome = true)
    {G : Nat → Option (List PV)} {w0 : Base} {μ : Ro} {φ : Nat → Phys} {w : World} {f : Fr} {ρ : Nat → Value} {yx : Value} (hM : RelM E.P G w0 μ φ m w) (hF : FrOk E.P μ φ m f ρ) (hx : RepV E.P μ φ v yx) :
    ∃ y w' φ', (Instr.buildSlice t 1 #[(0, yx)]).run E.P w = .ok y w' ∧ RelM E.P G w0 μ φ' (wrM [(site, .nest (csz E.P e) e [p])] (km [(true, id2)] m)) w' ∧ FrOk E.P μ φ' (wrM [(site, .nest (csz E.P e) e [p])] (km [(true, id2)] m)) (kf [(true, id2)] f) ρ ∧ RepV E.P μ φ' (.os site) y := by
  obtain ⟨l, s2, et2, rs, hm2, hrow, hpl, hvid, hrep⟩ := take1_elem hc ht
  obtain ⟨x1, x2, x3, z, hz1, hvz⟩ := hrep E.P μ φ yx hx
  obtain ⟨zc, hzc⟩ := Option.isSome_iff_exists.1 hz
  obtain ⟨iz, zv, i1, i2, i3, _⟩ := zeroCellsV_ok hzc
  have hne : id2 ≠ site := fun e => by subst e; rw [hs] at hm2; cases hm2
  have hpc : p.cells = ps := by
    unfold elemOf at hp
    split at hp
    · simp only [Option.some.injEq] at hp; subst hp; rfl
    · split at hp
      · rename_i q
        simp only [Option.some.injEq] at hp; subst hp
        have hl0 : l = 0 := by have := (List.getElem?_eq_some_iff.1 hrow).1; simp at this; exact this
        subst hl0
        simp only [List.getElem?_cons_zero, Option.some.injEq] at hrow; subst hrow; rfl
      · cases hp
  have hA2 : RepArr E.P μ φ w id2 s2 et2 rs := hM.blk id2 _ hm2
  -- the run
  have hfill : Instr.fill (fun i => some (i * csz E.P e, csz E.P e)) ((Array.range (1 * csz E.P e)).map (zv.cells[· % zv.cells.size]!)) [(0, yx)] = some yx.cells := by
    have hcs : ((Array.range (1 * csz E.P e)).map (zv.cells[· % zv.cells.size]!)).size = csz E.P e := by simp
    rw [fill_step (off := 0) (size := csz E.P e) (by simp) x1 (by rw [hcs]; omega)]
    simp only [Instr.fill, Option.some.injEq]
    apply Array.ext'
    simp only [splice_eq, List.take_zero, List.nil_append, Nat.zero_add]
    rw [List.drop_of_length_le (by simp only [Array.length_toList]; rw [hcs, x1]; exact Nat.le_refl _), List.append_nil]
  have hrun := run_buildSlice (P := E.P) w t e 1 #[(0, yx)] yx.cells iz zv hu i1 i2 (by rw [i3]; omega) (by rw [i3]; omega) (by rw [i3]; exact hfill)
  let q : Phys := { g := some w.heap.size, cap := 1, len := 1, sz := csz E.P e, row := fun a b => if a = 0 ∧ b = l then (φ id2).toPh0 else default }
  have hns : ∀ k, (memDel (killM id2 m) id2 k).isSome = true → k ≠ site := fun k hk e => by
    subst e
    rw [memDel_ne (Ne.symm hne)] at hk
    simp [killM, hs] at hk
  have hrows : ∀ a b, (Blk.nest (csz E.P e) e [p]).rowAt a b = true → a = 0 ∧ b = l := by
    intro a b hr
    rcases rowAt_of hr with ⟨_, _, _, e', s', rs', hb', h', hp'⟩ | ⟨_, _, _, _, _, _, hb', _⟩
    · simp only [Blk.nest.injEq] at hb'
      obtain ⟨rfl, rfl, rfl⟩ := hb'
      cases a with
      | succ a => simp at h'
      | zero =>
        simp only [List.getElem?_cons_zero, Option.some.injEq] at h'
        subst h'
        rw [hpc] at hp'
        refine ⟨rfl, ?_⟩
        by_cases hbl : b = l
        · exact hbl
        · exfalso
          have hlt : b < yx.cells.size := by rw [x1, ← hpl]; exact (List.getElem?_eq_some_iff.1 hp').1
          exact absurd (x3 b _ _ hbl hp' (Array.getElem?_eq_getElem hlt)).not_row (by simp [PV.isRow])
    · cases hb'
  have hM1 := hM.forget id2
  have hput : RelM E.P G w0 μ (fun i => if i = site then q else φ i) (memSet (memDel (killM id2 m) id2) site (.nest (csz E.P e) e [p])) (w.alloc (.cells yx.cells e)) := by
    have hold : ∀ k, k < w.heap.size → (w.alloc (.cells yx.cells e)).heap[k]? = w.heap[k]? := fun k hk => Bel.heap_alloc w _ k hk
    refine hM1.put (by rw [memDel_ne (Ne.symm hne)]; simp [killM, hs]) ((Bel.refl _ w).alloc hM.below.size _) (fun k o hk => ?_) (fun id b' g hid hg => hold g ((hM1.blk id b' hid).glt hg)) (fun g hg => ?_) ?_ ?_ (by simp [Blk.names]) (fun st h => by cases h)
    · have := hM.ro k o hk
      rw [hold k (Array.getElem?_eq_some_iff.1 this).1]; exact this
    · rcases hg with hg | ⟨a, b, hr, hg⟩
      · simp only [q, Option.some.injEq] at hg; subst hg
        refine ⟨hM.below.size, ?_, fun id b' hid ho => ?_⟩
        · cases hq : μ w.heap.size with
          | none => rfl
          | some o' => have := hM.ro _ _ hq; simp at this
        · have := (hM1.blk id b' hid).glt ho; omega
      · have hab := hrows a b hr
        have hg : (φ id2).g = some g := by simpa [q, hab] using hg
        obtain ⟨o1, o2⟩ := hM.own id2 _ g hm2 (.inl hg)
        refine ⟨o1, o2 rfl, fun id b' hid ho => ?_⟩
        obtain ⟨h1, b2, hb2, rfl⟩ := forget_some hid
        exact h1 (hM.inj id id2 _ _ g hb2 hm2 (owns_kill.1 ho) (.inl hg))
    · intro a b g hr hg
      have hab := hrows a b hr
      have hg : (φ id2).g = some g := by simpa [q, hab] using hg
      refine ⟨fun h => ?_, fun a' b' hr' _ => by have := hrows a' b' hr'; omega⟩
      simp only [q, Option.some.injEq] at h
      have := (hM.blk id2 _ hm2).glt (.inl hg)
      omega
    · show RepNest E.P μ (fun i => if i = site then q else φ i) (w.alloc (.cells yx.cells e)) site (csz E.P e) e [p]
      unfold RepNest
      simp only [if_true]
      refine ⟨rfl, rfl, trivial, hpos, fun i e' he' => ?_, by simp [q, maxLen], yx.cells, alloc_new w _, by simp [q, x1], by simp [q], fun i e' b p' x' he' hp' hx' => ?_, fun i x' _ hx' => x2 i x' hx'⟩
      · cases i with
        | zero => simp at he'; subst he'; rw [hpc, hpl]
        | succ i => simp at he'
      · cases i with
        | succ i => simp at he'
        | zero =>
          simp only [List.getElem?_cons_zero, Option.some.injEq] at he'; subst he'
          rw [hpc] at hp'
          rw [Nat.zero_mul, Nat.zero_add] at hx'
          by_cases hbl : b = l
          · subst hbl
            rw [hrow] at hp'; simp only [Option.some.injEq] at hp'; subst hp'
            rw [hz1] at hx'; simp only [Option.some.injEq] at hx'; subst hx'
            have : q.row 0 b = (φ id2).toPh0 := by simp [q]
            rw [this]
            refine RepRow.stable ⟨⟨et2, hA2.up⟩, rep_os hvz⟩ (fun _ _ h => h) fun g hg => hold g ((hM.blk id2 _ hm2).glt (.inl hg))
          · exact .pure (x3 b p' x' hbl hp' hx')
  refine ⟨_, _, _, hrun, hput, ?_, ?_⟩
  · exact (hF.forget id2).mono (fun _ _ h => h) fun k hk => ⟨by simp [hns k hk], by
      show (memSet (memDel (killM id2 m) id2) site _ k).isSome = true
      rw [memSet_ne (hns k hk)]; exact hk⟩
  · have := RepV.os (P := E.P) (μ := μ) (φ := fun i => if i = site then q else φ i) (id := site) (g := w.heap.size) (by simp [q])
    simpa [q] using this

theorem mput_set {k v v' : PV} : ∀ {es : List (PV × PV)} {j : Nat}, (mput k v es)[j]? = some (k, v) → (mpos k es = some j ∨ (mpos k es = none ∧ j = es.length)) → (mput k v es).set j (k, v') = mput k v' es := by
  intro es j hj hp
  rw [mput_pos, mput_pos]
  rcases hp with hp | ⟨hp, rfl⟩
  · rw [hp]; simp
  · rw [hp]; simp

theorem RelM.absorbM {P : Program} {G : Nat → Option (List PV)} {w0 : Base} {μ : Ro} {φ : Nat → Phys} {m : Mem} {w : World} (hM : RelM P G w0 μ φ m w) {id id2 i s2 : Nat} {kt e : TypeId} {es : List (PV × PV)} {k : PV} {rs : List PV} {x : Value} (hne : id2 ≠ id) (hm : m id = some (.mapN kt e es)) (hm2 : m id2 = some (.arr s2 e rs))
    (he : es[i]? = some (k, .bad)) (hx : ∀ g en clock, (φ id).g = some g → w.heap[g]? = some (.map en clock) → ∃ e0, en[i]? = some e0 ∧ e0.val = x) (hv : RepV P μ φ (.os id2) x) :
    RelM P G w0 μ (fun j => if j = id then setRowP (φ id) i 0 (φ id2).toPh0 else φ j) (memSet (kill2M id (memDel (killM id2 m) id2)) id (.mapN kt e (es.set i (k, .rsO s2 rs)))) w := by
  have hM1 := (hM.forget id2).forget2 id
  obtain ⟨g0, en, clock, kk, hN⟩ := mapN_iff.1 (hM.blk id _ hm)
  have hA2 : RepArr P μ φ w id2 s2 e rs := hM.blk id2 _ hm2
  have hrow : ∀ a b, (Blk.mapN kt e (es.set i (k, .rsO s2 rs))).rowAt a b = true → (a = i ∧ b = 0) ∨ ((Blk.mapN kt e es).rowAt a b = true ∧ ¬(a = i ∧ b = 0)) := by
    intro a b hr
    by_cases hab : a = i ∧ b = 0
    · exact .inl hab
    · refine .inr ⟨?_, hab⟩
      rcases rowAt_of hr with ⟨_, _, _, _, _, _, hb', _⟩ | ⟨_, _, _, k', s', rs', hb', rfl, h'⟩
      · cases hb'
      · simp only [Blk.mapN.injEq] at hb'
        obtain ⟨rfl, rfl, rfl⟩ := hb'
        rcases set_get h' with ⟨rfl, _⟩ | ⟨hni, h'⟩
        · exact absurd ⟨rfl, rfl⟩ hab
        · rw [rowAt_mapN h']; rfl
  refine hM.reown (fun _ k => if k = id2 then id else k) (fun j b' hj => ?_) (fun j b' g hj ho => ?_) (fun j b' hj => ?_) (fun j cs k hj hk => ?_) (fun j st hj => ?_)
  · rcases absorb_some hj with ⟨rfl, rfl⟩ | ⟨h1, h2, c, hc, rfl⟩
    · refine mapN_iff.2 ⟨g0, en, clock, kk, by simp [setRowP, hN.pl], hN.heap, by simp [hN.size], hN.kds, fun a k' v' h' => ?_, hN.born, fun a k' v' e' h' he' => ?_⟩
      · rcases set_get h' with ⟨rfl, hq⟩ | ⟨_, h'⟩
        · simp only [Prod.mk.injEq] at hq; rw [hq.1]; exact hN.key a k _ he
        · exact hN.key a k' v' h'
      · simp only [if_true]
        rcases set_get h' with ⟨rfl, hq⟩ | ⟨hni, h'⟩
        · simp only [Prod.mk.injEq] at hq; obtain ⟨rfl, rfl⟩ := hq
          refine ⟨(hN.rep a _ _ e' he he').1, ?_⟩
          rw [setRowP_same]
          obtain ⟨e1, he1, hxe⟩ := hx g0 en clock hN.pl hN.heap
          rw [he'] at he1; simp only [Option.some.injEq] at he1; subst he1
          rw [hxe]
          exact ⟨hA2.up, rep_os hv⟩
        · rw [setRowP_ne _ _ (fun h => hni h.1)]
          exact hN.rep a k' v' e' h' he'
    · have hb : RepB P μ φ w j (kill2B id (killB id2 c)) := (hM.blk j c hc).kill.kill2
      exact hb.stable2 h1 (by simp [setRowP]) fun k hk => by simp [hk]
  · rcases absorb_some hj with ⟨rfl, rfl⟩ | ⟨h1, h2, c, hc, rfl⟩
    · simp only [if_true] at ho
      rcases ho with ho | ⟨a, b, hr, ho⟩
      · exact ⟨j, _, hm, .inl ho, fun _ => rfl, by simp [hne.symm]⟩
      · rcases hrow a b hr with ⟨rfl, rfl⟩ | ⟨hr', hab⟩
        · rw [setRowP_same] at ho
          exact ⟨id2, _, hm2, .inl ho, fun _ => rfl, by simp⟩
        · rw [setRowP_ne _ _ hab] at ho
          exact ⟨j, _, hm, .inr ⟨a, b, hr', ho⟩, fun _ => rfl, by simp [hne.symm]⟩
    · simp only [h1, if_false] at ho
      exact ⟨j, c, hc, owns_kill.1 (owns_kill2.1 ho), fun h => by rw [kill2B_mut, killB_mut] at h; exact h, by simp [h2]⟩
  · rcases absorb_some hj with ⟨rfl, rfl⟩ | ⟨h1, h2, c, hc, rfl⟩
    · simp only [if_true]
      have hap := hM.apart j _ hm
      have new : ∀ g, (φ id2).g = some g → ¬ (Blk.mapN kt e es).owns (φ j) g := fun g hg ho => hne (hM.inj id2 j _ _ g hm2 hm (.inl hg) ho)
      intro a b g hr hg
      rcases hrow a b hr with ⟨rfl, rfl⟩ | ⟨hr', hab⟩
      · rw [setRowP_same] at hg
        refine ⟨fun h => new g hg (.inl h), fun a' b' hr2 hg2 => ?_⟩
        rcases hrow a' b' hr2 with h | ⟨hr3, hab'⟩
        · exact h
        · rw [setRowP_ne _ _ hab'] at hg2
          exact absurd (.inr ⟨a', b', hr3, hg2⟩) (new g hg)
      · rw [setRowP_ne _ _ hab] at hg
        obtain ⟨h3, h4⟩ := hap a b g hr' hg
        refine ⟨h3, fun a' b' hr2 hg2 => ?_⟩
        rcases hrow a' b' hr2 with ⟨rfl, rfl⟩ | ⟨hr3, hab'⟩
        · rw [setRowP_same] at hg2
          exact absurd (.inr ⟨a, b, hr', hg⟩) (new g hg2)
        · rw [setRowP_ne _ _ hab'] at hg2
          exact h4 a' b' hr3 hg2
    · simp only [h1, if_false]
      exact apart_kill2.2 (apart_kill.2 (hM.apart j c hc))
  · rcases absorb_some hj with ⟨rfl, hb⟩ | ⟨h1, h2, c, hc, hb⟩
    · cases hb
    · have hj' : kill2M id (memDel (killM id2 m) id2) j = some (.box cs) := by rw [memSet_ne h1] at hj; exact hj
      have := hM1.liveB j cs k hj' hk
      by_cases e : k = id
      · subst e; simp
      · rw [memSet_ne e]; exact this
  · rcases absorb_some hj with ⟨rfl, hb⟩ | ⟨h1, h2, c, hc, hb⟩
    · cases hb
    · cases c <;> first | (simp [kill2B, killB] at hb; done) | skip
      simp only [kill2B, killB, Blk.loop.injEq] at hb
      subst hb
      exact ⟨hc, by simp [h1]⟩
theorem upd_sound {t kt et e : TypeId} {xk : V} {id id2 s : Nat} {es : List (PV × PV)} {key : PV} {rs : List PV} {m : Mem} (hu : E.P.underlying t = some (.map kt et)) (hm : m id = some (.mapN kt e es)) (hm2 : m id2 = some (.arr s e rs)) (hkey : keyOf E kt xk = some key)
    {G : Nat → Option (List PV)} {w0 : Base} {μ : Ro} {φ : Nat → Phys} {w : World} {f : Fr} {ρ : Nat → Value} {ya yk yv : Value} (hM : RelM E.P G w0 μ φ m w) (hF : FrOk E.P μ φ m f ρ) (ha : RepV E.P μ φ (.om id) ya) (hk : RepV E.P μ φ xk yk) (hv : RepV E.P μ φ (.os id2) yv) :
    ∃ w' φ', (Instr.mapUpdate t ya yk yv).run E.P w = .ok () w' ∧ RelM E.P G w0 μ φ' (wrM [(id, .mapN kt e (mput key (.rsO s rs) es))] (km [(true, id2), (false, id)] m)) w' ∧ FrOk E.P μ φ' (wrM [(id, .mapN kt e (mput key (.rsO s rs) es))] (km [(true, id2), (false, id)] m)) (kf [(true, id2), (false, id)] f) ρ := by
  have hne : id2 ≠ id := fun h => by subst h; rw [hm] at hm2; cases hm2
  obtain ⟨ks, k1, k2, k3⟩ := keyOf_ok hkey
  obtain ⟨g, en, clock, kk, hN⟩ := mapN_iff.1 (hM.blk id _ hm)
  have hkk := hN.kds
  rw [k1] at hkk; simp only [Option.some.injEq] at hkk; subst hkk
  have hk8 := kdsOf_kds k1
  have hkr := k3 μ φ yk hk
  obtain ⟨hc, hkv⟩ := keyOk_val k2 hkr
  obtain ⟨res, r1, r2⟩ := run_findKey_kds (v := .nilp) (z := .bad) hk8 hc w hN.ent
  have hgo := Go.MapKept.run_getObj_map (P := E.P) hN.heap
  have h1 : (Instr.checkKey false 10000 kt yk).run E.P w = .ok () w := by rw [hkv]; exact run_checkKey_kds 8 kt ks hk8 9992 w false key.cells hc
  rw [← hkv] at r1
  have hlt : g < w.heap.size := (Array.getElem?_eq_some_iff.1 hN.heap).1
  cases ha with
  | om hg' =>
    rw [hN.pl] at hg'; simp only [Option.some.injEq] at hg'; subst hg'
    -- the map behind it, the entry's value not yet known
    have fin : ∀ (J : Nat) (en' : Array MapEntry) (clock' : Nat), (mpos key es = some J ∨ (mpos key es = none ∧ J = es.length)) → (Instr.mapUpdate t (.map (some g)) yk yv).run E.P w = .ok () { w with heap := w.heap.setIfInBounds g (.map en' clock') } → BornOk en' clock' → en'.size = (mput key .bad es).length →
        (∃ e0, en'[J]? = some e0 ∧ e0.key = yk ∧ e0.val = yv) → (∀ i e0, i ≠ J → en'[i]? = some e0 → en[i]? = some e0) →
        ∃ w' φ', (Instr.mapUpdate t (.map (some g)) yk yv).run E.P w = .ok () w' ∧ RelM E.P G w0 μ φ' (wrM [(id, .mapN kt e (mput key (.rsO s rs) es))] (km [(true, id2), (false, id)] m)) w' ∧ FrOk E.P μ φ' (wrM [(id, .mapN kt e (mput key (.rsO s rs) es))] (km [(true, id2), (false, id)] m)) (kf [(true, id2), (false, id)] f) ρ := by
      intro J en' clock' hJ hr hbo hsz hJe hoth
      obtain ⟨eJ, hJe1, hJe2, hJe3⟩ := hJe
      have hput : ∀ i k' v', (mput key .bad es)[i]? = some (k', v') → (i = J ∧ k' = key ∧ v' = .bad) ∨ (i ≠ J ∧ es[i]? = some (k', v')) := by
        intro i k' v' h
        rw [mput_pos] at h
        rcases hJ with hJ | ⟨hJ, rfl⟩
        · rw [hJ] at h
          rcases set_get h with ⟨rfl, hq⟩ | ⟨hni, h⟩
          · simp only [Prod.mk.injEq] at hq; exact .inl ⟨rfl, hq.1, hq.2⟩
          · exact .inr ⟨hni, h⟩
        · rw [hJ] at h
          simp only at h
          rw [List.getElem?_append] at h
          split at h
          · rename_i hlt; exact .inr ⟨by omega, h⟩
          · rename_i hge
            cases hd : i - es.length with
            | zero =>
              rw [hd] at h
              simp only [List.getElem?_cons_zero, Option.some.injEq, Prod.mk.injEq] at h
              exact .inl ⟨by omega, h.1.symm, h.2.symm⟩
            | succ n => rw [hd] at h; simp at h
      have hJb : (mput key .bad es)[J]? = some (key, .bad) := by
        rw [mput_pos]
        rcases hJ with hJ | ⟨hJ, rfl⟩
        · rw [hJ]
          obtain ⟨a, u, hj, _⟩ := mpos_lt hJ
          simp [(List.getElem?_eq_some_iff.1 hj).1]
        · rw [hJ]; simp
      have hM1 : RelM E.P G w0 μ φ (memSet m id (.mapN kt e (mput key .bad es))) { w with heap := w.heap.setIfInBounds g (.map en' clock') } := by
        refine hM.write hm rfl hN.pl ⟨⟨rfl, rfl, rfl, by simp, fun k hk => by simp [Array.getElem?_setIfInBounds_ne (Nat.ne_of_gt hk)]⟩, fun _ => Nat.le_refl _⟩ (by simp) (fun k hk => by simp [Array.getElem?_setIfInBounds_ne (Ne.symm hk)])
          (mapN_iff.2 ⟨g, en', clock', ks, hN.pl, by simp [hlt], hsz, k1, fun i k' v' h => ?_, hbo, fun i k' v' e0 h he0 => ?_⟩) rfl (by simp [Blk.names]) (fun st h => by cases h) fun a b hr => ?_
        · rcases hput i k' v' h with ⟨_, rfl, _⟩ | ⟨_, h⟩
          · exact k2
          · exact hN.key i k' v' h
        · rcases hput i k' v' h with ⟨rfl, rfl, rfl⟩ | ⟨hni, h⟩
          · rw [hJe1] at he0; simp only [Option.some.injEq] at he0; subst he0
            exact ⟨by rw [hJe2]; exact hkr, .pure .bad⟩
          · obtain ⟨q1, q2⟩ := hN.rep i k' v' e0 h (hoth i e0 hni he0)
            refine ⟨q1, ?_⟩
            unfold RepEnt at q2 ⊢
            split at q2
            · refine ⟨q2.1.stable rfl (fun _ _ h => h) fun g' hg' => ?_, q2.2⟩
              have hr : (Blk.mapN kt e es).rowAt i 0 = true := by rw [rowAt_mapN h]; rfl
              have := (hM.apart id _ hm i 0 g' hr hg').1
              rw [hN.pl] at this
              simp only [ne_eq, Option.some.injEq] at this
              simp [Array.getElem?_setIfInBounds_ne this]
            · exact q2
        · rcases rowAt_of hr with ⟨_, _, _, _, _, _, hb', _⟩ | ⟨_, _, _, k', s', rs', hb', rfl, h'⟩
          · cases hb'
          · simp only [Blk.mapN.injEq] at hb'
            obtain ⟨rfl, rfl, rfl⟩ := hb'
            rcases hput a k' _ h' with ⟨_, _, h⟩ | ⟨_, h⟩
            · cases h
            · rw [rowAt_mapN h]; rfl
      have hab := RelM.absorbM hM1 (id := id) (id2 := id2) (i := J) (x := yv) hne (memSet_same _ _ _) (by rw [memSet_ne hne]; exact hm2) hJb (fun g0 en0 clock0 hg0 hh0 => by
        rw [hN.pl] at hg0; simp only [Option.some.injEq] at hg0; subst hg0
        have : (w.heap.setIfInBounds g (Obj.map en' clock'))[g]? = some (.map en' clock') := by simp [hlt]
        rw [this] at hh0
        simp only [Option.some.injEq, Obj.map.injEq] at hh0
        obtain ⟨rfl, _⟩ := hh0
        exact ⟨eJ, hJe1, hJe3⟩) hv
      rw [mput_set hJb hJ, forget_set hne] at hab
      refine ⟨_, _, hr, hab, ?_⟩
      have hF1 : FrOk E.P μ φ (memSet m id (.mapN kt e (mput key .bad es))) f ρ := hF.lives (fun _ _ h => h) .set
      refine ((hF1.forget id2).forget2 id).move2 (by simp [setRowP]) (fun k hk => by simp [hk]) fun k hk => ?_
      show (memSet (kill2M id (memDel (killM id2 m) id2)) id _ k).isSome = true
      by_cases e1 : k = id
      · subst e1; simp
      · rw [memSet_ne e1]
        rw [kill2M_isSome] at hk ⊢
        by_cases e2 : k = id2
        · subst e2; simp at hk
        · rw [memDel_ne e2] at hk ⊢
          simp only [killM, memSet_ne e1] at hk ⊢
          exact hk
    rcases found_pos r2 with ⟨rfl, hp⟩ | ⟨j, e0, rfl, he0, hp⟩
    · have hso := Go.MapKept.run_setObj_map (P := E.P) (.map (en.push { key := yk, val := yv, born := clock }) (clock + 1)) hN.heap
      refine fin es.length _ _ (.inr ⟨hp, rfl⟩) (by
        simp only [Instr.mapUpdate, Sem.run_bind, run_underlying hu, hgo, h1, r1, Result.andThen_ok]
        exact hso) hN.born.push (by rw [mput_pos, hp]; simp [hN.size]) ⟨{ key := yk, val := yv, born := clock }, ?_, rfl, rfl⟩ fun i e0 hi h => ?_
      · rw [← hN.size]; simp
      · rw [Array.getElem?_push] at h
        split at h
        · rename_i h'; rw [hN.size] at h'; exact absurd h' hi
        · exact h
    · have he0' : en[j]? = some e0 := by simpa using he0
      obtain ⟨a, u, haj, hpq⟩ := mpos_lt hp
      obtain ⟨hca, hva⟩ := keyOk_val (hN.key j a u haj) (hN.rep j a u e0 haj he0').1
      have hcells := peqL_eq hc hca hpq
      have hsb : Instr.sameBits 10000 e0.key yk = true := by
        rw [hva, hkv, ← hcells]
        refine sameBits_mkVal (n := 9999) hc (fun ha => ?_)
        rw [chk_len hc]; exact (kds_agg hk8).2.1 ha
      have hso := Go.MapKept.run_setObj_map (P := E.P) (.map (en.modify j fun e => { e with key := yk, val := yv }) clock) hN.heap
      have hjl : j < en.size := (Array.getElem?_eq_some_iff.1 he0').1
      refine fin j _ _ (.inl hp) (by
        simp only [Instr.mapUpdate, Sem.run_bind, run_underlying hu, hgo, h1, r1, Result.andThen_ok]
        simp only [Nat.zero_add, he0', Option.map_some, Option.getD_some, Instr.keyThatStays, hsb, if_true, Sem.run_pure, Result.andThen_ok]
        exact hso) (hN.born.modify (fun e => { e with key := yk, val := yv }) (fun _ => rfl) _) (by rw [mput_pos, hp]; simp [hN.size]) ⟨{ e0 with key := yk, val := yv }, by rw [Array.getElem?_modify, if_pos rfl, he0']; rfl, rfl, rfl⟩ fun i e1 hi h => ?_
      rw [Array.getElem?_modify, if_neg (Ne.symm hi)] at h
      exact h
end
end Go.Ab

set_option linter.unusedVariables false
namespace Go.Ab

section
variable {P : Program} {G : Nat → Option (List PV)} {w0 : Base} {μ μ' : Ro} {φ φ' : Nat → Phys} {m m' : Mem} {w w' : World}
structure NCells (P : Program) (μ : Ro) (rows : Nat → Nat → Ph0) (w : World) (s : Nat) (es : List PV) (xs : List Value) : Prop where
  len : xs.length = es.length * s
  each : ∀ (i : Nat) e, es[i]? = some e → e.cells.length = s
  rep : ∀ (i : Nat) e (j : Nat) p x, es[i]? = some e → e.cells[j]? = some p → xs[i * s + j]? = some x → RepCell P μ (rows i j) w p x
  one : ∀ (i : Nat) (x : Value), xs[i]? = some x → x.oneCell' = true
theorem NCells.append {rows rows' rows2 : Nat → Nat → Ph0} {s : Nat} {es es' : List PV} {xs xs' : List Value} (h : NCells P μ rows w s es xs) (h' : NCells P μ rows' w s es' xs')
    (h1 : ∀ i j, i < es.length → rows2 i j = rows i j) (h2 : ∀ i j, es.length ≤ i → rows2 i j = rows' (i - es.length) j) : NCells P μ rows2 w s (es ++ es') (xs ++ xs') := by
  refine ⟨by simp [h.len, h'.len, Nat.add_mul], fun i e he => ?_, fun i e j p x he hp hx => ?_, fun i x hx => ?_⟩
  · rw [List.getElem?_append] at he
    split at he
    · exact h.each i e he
    · exact h'.each _ e he
  · rw [List.getElem?_append] at he
    split at he
    · rename_i hi
      rw [h1 i j hi]
      have hj : j < s := by rw [← h.each i e he]; exact (List.getElem?_eq_some_iff.1 hp).1
      rw [List.getElem?_append_left (by rw [h.len]; exact idx_lt hi hj)] at hx
      exact h.rep i e j p x he hp hx
    · rename_i hi
      rw [h2 i j (by omega)]
      have e1 : i * s + j = es.length * s + ((i - es.length) * s + j) := by
        have : i = es.length + (i - es.length) := by omega
        have h3 : i * s = es.length * s + (i - es.length) * s := by rw [← Nat.add_mul, ← this]
        omega
      rw [List.getElem?_append_right (by rw [h.len, e1]; omega), h.len, show i * s + j - es.length * s = (i - es.length) * s + j by omega] at hx
      exact h'.rep _ e j p x he hp hx
  · rw [List.getElem?_append] at hx
    split at hx
    · exact h.one i x hx
    · exact h'.one _ x hx
theorem Cells.ncells {rows : Nat → Nat → Ph0} {s : Nat} {es : List PV} {xs : List Value} (h : Cells P μ s es xs) : NCells P μ rows w s es xs :=
  ⟨h.len, h.each, fun i e j p x he hp hx => .pure (h.rep i e j p x he hp hx), h.one⟩
theorem NCells.stable {rows : Nat → Nat → Ph0} {s : Nat} {es : List PV} {xs : List Value} (h : NCells P μ rows w s es xs) (hw : ∀ i e j p g, es[i]? = some e → e.cells[j]? = some p → p.isRow = true → (rows i j).g = some g → w'.heap[g]? = w.heap[g]?) : NCells P μ rows w' s es xs :=
  ⟨h.len, h.each, fun i e j p x he hp hx => (h.rep i e j p x he hp hx).stable (fun _ _ h => h) fun hr g hg => hw i e j p g he hp hr hg, h.one⟩
theorem RepNest.ncells {id sz : Nat} {et : TypeId} {es : List PV} (h : RepNest P μ φ w id sz et es) {g : Nat} (hg : (φ id).g = some g) :
    ∃ c : Array Value, w.heap[g]? = some (.cells c et (0, 0)) ∧ (φ id).cap * sz ≤ c.size ∧ es.length ≤ (φ id).cap ∧ NCells P μ (φ id).row w sz es (c.toList.take (es.length * sz)) := by
  obtain ⟨a1, a2, a3, a4, a5, a6, a7⟩ := h
  rw [hg] at a7
  obtain ⟨c, c1, c2, c3, c4, c5⟩ := a7
  have hle : es.length * sz ≤ c.size := Nat.le_trans (Nat.mul_le_mul_right _ c3) c2
  refine ⟨c, c1, c2, c3, by simp; omega, a5, fun i e j p x he hp hx => c4 i e j p x he hp (by simpa using (take_get hx).2), fun i x hx => ?_⟩
  have := take_get hx
  exact c5 i x this.1 (by simpa using this.2)
theorem NCells.nest {id g sz : Nat} {et : TypeId} {es : List PV} {c : Array Value} (hph : (φ id).toPh0 = ⟨some g, (φ id).cap, es.length, sz⟩) (hsz : sz = csz P et) (hpos : 0 < sz) (hcap : (φ id).cap ≤ maxLen)
    (hh : w.heap[g]? = some (.cells c et (0, 0))) (hc : (φ id).cap * sz ≤ c.size) (hle : es.length ≤ (φ id).cap) (hC : NCells P μ (φ id).row w sz es (c.toList.take (es.length * sz))) : RepNest P μ φ w id sz et es := by
  have e1 : (φ id).g = some g := by rw [hph]
  refine ⟨by rw [hph], by rw [hph], hsz, hpos, hC.each, hcap, ?_⟩
  rw [e1]
  have hjl : ∀ (i : Nat) e (j : Nat) p, es[i]? = some e → e.cells[j]? = some p → i * sz + j < es.length * sz := fun i e j p hi hj =>
    idx_lt (List.getElem?_eq_some_iff.1 hi).1 (by rw [← hC.each i e hi]; exact (List.getElem?_eq_some_iff.1 hj).1)
  refine ⟨c, hh, hc, hle, fun i e j p x hi hj hx => ?_, fun i x hi hx => ?_⟩
  · exact hC.rep i e j p x hi hj (by rw [List.getElem?_take_of_lt (hjl i e j p hi hj)]; simpa using hx)
  · exact hC.one i x (by rw [List.getElem?_take_of_lt hi]; simpa using hx)
end

section
variable {R : Type} {E : Env}
def kmS (src : Option Nat) (m : Mem) : Mem := match src with | some id2 => memDel (killM id2 m) id2 | none => m
def kfS (src : Option Nat) (f : Fr) : Fr := match src with | some id2 => killF id2 f | none => f
theorem kmS_some {src : Option Nat} {m : Mem} {j : Nat} {b : Blk} (h : kmS src m j = some b) : src ≠ some j ∧ ∃ b', m j = some b' ∧ b.rowAt = b'.rowAt := by
  cases src with
  | none => exact ⟨by simp, b, h, rfl⟩
  | some id2 =>
    obtain ⟨h1, b', h2, rfl⟩ := forget_some h
    exact ⟨fun e => h1 (by simpa using e.symm), b', h2, rowAt_kill _ _⟩
theorem app_sound {t e ty : TypeId} {x : V} {id s : Nat} {es new : List PV} {src : Option Nat} {rd : Foot} {m : Mem} (hu : E.P.underlying t = some (.slice e)) (hm : m id = some (.nest s e es)) (hs : s = csz E.P e) (hz : (zeroCellsV E e).isSome = true) (hpos : 0 < csz E.P e) (hby : 0 < bsz E.P e)
    (hroom : (es ++ new).length * bsz E.P e ≤ roomBound) (hsrc : (∃ id2, src = some id2 ∧ id2 ≠ id ∧ x = .os id2 ∧ m id2 = some (.nest s e new)) ∨ (src = none ∧ elemsV m s x = some (new, rd)))
    {G : Nat → Option (List PV)} {w0 : Base} {μ : Ro} {φ : Nat → Phys} {w : World} {f : Fr} {ρ : Nat → Value} {ys yx : Value} (hM : RelM E.P G w0 μ φ m w) (hF : FrOk E.P μ φ m f ρ) (ha : RepV E.P μ φ (.os id) ys) (hx : RepV E.P μ φ x yx) :
    ∃ w' y φ', (Builtin.append_ #[t, t] ty #[ys, yx]).run E.P w = .ok y w' ∧ RelM E.P G w0 μ φ' (memSet (memDel (killM id (kmS src m)) id) id (.nest s e (es ++ new))) w' ∧ FrOk E.P μ φ' (memSet (memDel (killM id (kmS src m)) id) id (.nest s e (es ++ new))) (killF id (kfS src f)) ρ ∧ RepV E.P μ φ' (.os id) y := by
  obtain ⟨zc, hzc⟩ := Option.isSome_iff_exists.1 hz
  obtain ⟨i, zv, hi, hzv, his, _, hzs, _, _, _⟩ := zeroCellsV_ok hzc
  have hN : RepNest E.P μ φ w id s e es := hM.blk id _ hm
  have hll : (es ++ new).length = es.length + new.length := by simp
  have hsp : 0 < s := by omega
  -- the rows of the new elements
  obtain ⟨rows', hr'⟩ : ∃ rows' : Nat → Nat → Ph0, rows' = match src with | some id2 => (φ id2).row | none => fun _ _ => default := ⟨_, rfl⟩
  -- the block's own cells
  obtain ⟨os, hos, hC⟩ : ∃ os, ((ys = .slice none 0 0 ∧ es.length = 0 ∧ os = []) ∨ ∃ (g cap : Nat) (c : Array Value), ys = .slice (some ⟨g, 0, none⟩) es.length cap ∧ w.heap[g]? = some (.cells c e (0, 0)) ∧ cap * s ≤ c.size ∧ es.length ≤ cap ∧ cap ≤ maxLen ∧ os = c.toList.take (es.length * s)) ∧ NCells E.P μ (φ id).row w s es os := by
    cases ha with
    | osN hg =>
      have a7 := hN.2.2.2.2.2.2
      rw [hg] at a7
      rw [a7.1]
      exact ⟨[], .inl ⟨rfl, rfl, rfl⟩, by simp, by simp, fun i e j p x he => by simp at he, by simp⟩
    | @os _ g hg =>
      obtain ⟨c, c1, c2, c3, c4⟩ := hN.ncells hg
      exact ⟨_, .inr ⟨g, (φ id).cap, c, by rw [hN.1], c1, c2, c3, hN.2.2.2.2.2.1, rfl⟩, c4⟩
  -- the other's
  obtain ⟨xs, hxs, hCx⟩ : ∃ xs, ((yx = .slice none 0 0 ∧ new.length = 0 ∧ xs = []) ∨ ∃ (a : Addr) (cx : Nat), yx = .slice (some a) new.length cx ∧ xs.length = new.length * s ∧ (∀ (j : Nat) v, xs[j]? = some v → w.cell? (a.add j) = some v) ∧ (∀ v ∈ xs, v.oneCell' = true) ∧ new.length ≤ cx ∧ cx ≤ maxLen) ∧ NCells E.P μ rows' w s new xs := by
    rcases hsrc with ⟨id2, rfl, hne, rfl, hm2⟩ | ⟨rfl, hel⟩
    · have hN2 : RepNest E.P μ φ w id2 s e new := hM.blk id2 _ hm2
      simp only at hr'
      subst hr'
      cases hx with
      | osN hg =>
        have a7 := hN2.2.2.2.2.2.2
        rw [hg] at a7
        rw [a7.1]
        exact ⟨[], .inl ⟨rfl, rfl, rfl⟩, by simp, by simp, fun i e j p x he => by simp at he, by simp⟩
      | @os _ g hg =>
        obtain ⟨c, c1, c2, c3, c4⟩ := hN2.ncells hg
        refine ⟨_, .inr ⟨⟨g, 0, none⟩, (φ id2).cap, by rw [hN2.1], c4.len, fun j v hj => ?_, fun v hv => ?_, c3, hN2.2.2.2.2.2.1⟩, c4⟩
        · rw [Addr.add_mid, cell?_of_heap c1]; simpa using (take_get hj).2
        · obtain ⟨j, hj⟩ := List.getElem?_of_mem hv; exact c4.one j v hj
    · obtain ⟨_, _, hsr⟩ := elemsV_ok hel
      have := hsr _ _ _ _ _ _ _ hM hx
      cases this with
      | none hn => subst hn; exact ⟨[], .inl ⟨rfl, rfl, rfl⟩, by simp, by simp, fun i e j p x he => by simp at he, by simp⟩
      | @some a cx xs hC hxs hcx hcm => exact ⟨xs, .inr ⟨a, cx, rfl, hC.len, hxs, fun u hu => by obtain ⟨j, hj⟩ := List.getElem?_of_mem hu; exact hC.one j u hj, hcx, hcm⟩, hC.ncells⟩
  obtain ⟨w', y, hr, hcase⟩ := append_raw (ty := ty) hu hi hzv (by rw [hzs, hs]) hs hpos hby (by rw [← hll]; exact hroom) hos hxs
  -- the physical side
  let rowsN : Nat → Nat → Ph0 := fun a b => if a < es.length then (φ id).row a b else rows' (a - es.length) b
  have hCC : NCells E.P μ rowsN w s (es ++ new) (os ++ xs) := hC.append hCx (fun a b h => by simp only [rowsN, h, if_true]) (fun a b h => by simp only [rowsN, Nat.not_lt.2 h, if_false])
  -- who owned a row
  have hrow : ∀ a b g, (Blk.nest s e (es ++ new)).rowAt a b = true → (rowsN a b).g = some g →
      (a < es.length ∧ (Blk.nest s e es).rowAt a b = true ∧ ((φ id).row a b).g = some g) ∨ (es.length ≤ a ∧ ∃ id2, src = some id2 ∧ id2 ≠ id ∧ m id2 = some (.nest s e new) ∧ (Blk.nest s e new).rowAt (a - es.length) b = true ∧ ((φ id2).row (a - es.length) b).g = some g) := by
    intro a b g hrr hg
    rcases rowAt_of hrr with ⟨_, _, _, e', s', rs', hb', h', hp'⟩ | ⟨_, _, _, _, _, _, hb', _⟩
    · simp only [Blk.nest.injEq] at hb'
      obtain ⟨rfl, rfl, rfl⟩ := hb'
      by_cases hlt : a < es.length
      · rw [List.getElem?_append_left hlt] at h'
        exact .inl ⟨hlt, by rw [rowAt_nest h' hp']; rfl, by simpa [rowsN, hlt] using hg⟩
      · rw [List.getElem?_append_right (by omega)] at h'
        simp only [rowsN, hlt, if_false] at hg
        rcases hsrc with ⟨id2, rfl, hne, rfl, hm2⟩ | ⟨rfl, hel⟩
        · simp only at hr'
          subst hr'
          exact .inr ⟨by omega, id2, rfl, hne, hm2, by rw [rowAt_nest h' hp']; rfl, hg⟩
        · exfalso
          obtain ⟨_, _, hsr⟩ := elemsV_ok hel
          have h3 := hsr _ _ _ _ _ _ _ hM hx
          cases h3 with
          | none hn => subst hn; simp at h'
          | @some a2 cx xs2 hC2 hxs2 hcx hcm =>
            have hj : (a - es.length) * s + b < xs2.length := by
              rw [hC2.len]
              exact idx_lt (List.getElem?_eq_some_iff.1 h').1 (by rw [← hC2.each _ _ h']; exact (List.getElem?_eq_some_iff.1 hp').1)
            exact absurd (hC2.rep _ _ _ _ _ h' hp' (List.getElem?_eq_getElem hj)).not_row (by simp [PV.isRow])
    · cases hb'
  have hlive2 : ∀ j, (memDel (killM id (kmS src m)) id j).isSome = true → j ≠ id := fun j hj e => by subst e; simp at hj
  have hmem : ∀ j b', memDel (killM id (kmS src m)) id j = some b' → j ≠ id ∧ src ≠ some j ∧ ∃ b, m j = some b ∧ b'.rowAt = b.rowAt := by
    intro j b' hj
    obtain ⟨h1, b1, h2, rfl⟩ := forget_some hj
    obtain ⟨h3, b2, h4, h5⟩ := kmS_some h2
    exact ⟨h1, h3, b2, h4, by rw [rowAt_kill, h5]⟩
  have hownsm : ∀ {j b' b g}, b'.rowAt = b.rowAt → Blk.owns b' (φ j) g → Blk.owns b (φ j) g := fun h ho => by unfold Blk.owns at *; rw [← h]; exact ho
  have hM0 : RelM E.P G w0 μ φ (kmS src m) w := by
    cases src with
    | none => exact hM
    | some id2 => exact hM.forget id2
  have hF0 : FrOk E.P μ φ (kmS src m) (kfS src f) ρ := by
    cases src with
    | none => exact hF
    | some id2 => exact hF.forget id2
  have hM1 := hM0.forget id
  have hF1 := hF0.forget id
  -- the row's owner is none of the others
  have hrowOwn : ∀ a b g, (Blk.nest s e (es ++ new)).rowAt a b = true → (rowsN a b).g = some g → w0.heap.size ≤ g ∧ μ g = none ∧ g < w.heap.size ∧ ∀ j b', memDel (killM id (kmS src m)) id j = some b' → ¬ b'.owns (φ j) g := by
    intro a b g hrr hg
    rcases hrow a b g hrr hg with ⟨_, h2, h3⟩ | ⟨_, id2, rfl, hne, hm2, h2, h3⟩
    · obtain ⟨o1, o2⟩ := hM.own id _ g hm (.inr ⟨a, b, h2, h3⟩)
      refine ⟨o1, o2 rfl, (hM.blk id _ hm).glt (.inr ⟨a, b, h2, h3⟩), fun j b' hj ho => ?_⟩
      obtain ⟨k1, _, b2, k3, k4⟩ := hmem j b' hj
      exact k1 (hM.inj j id _ _ g k3 hm (hownsm k4 ho) (.inr ⟨a, b, h2, h3⟩))
    · obtain ⟨o1, o2⟩ := hM.own id2 _ g hm2 (.inr ⟨_, b, h2, h3⟩)
      refine ⟨o1, o2 rfl, (hM.blk id2 _ hm2).glt (.inr ⟨_, b, h2, h3⟩), fun j b' hj ho => ?_⟩
      obtain ⟨_, k1, b2, k3, k4⟩ := hmem j b' hj
      exact k1 (by rw [hM.inj j id2 _ _ g k3 hm2 (hownsm k4 ho) (.inr ⟨_, b, h2, h3⟩)])
  have hrowApart : ∀ a b a' b' g, (Blk.nest s e (es ++ new)).rowAt a b = true → (rowsN a b).g = some g → (Blk.nest s e (es ++ new)).rowAt a' b' = true → (rowsN a' b').g = some g → a' = a ∧ b' = b := by
    intro a b a' b' g h1 h2 h3 h4
    rcases hrow a b g h1 h2 with ⟨u1, u2, u3⟩ | ⟨u1, i2, u0, une, um, u2, u3⟩ <;> rcases hrow a' b' g h3 h4 with ⟨v1, v2, v3⟩ | ⟨v1, i3, v0, vne, vm, v2, v3⟩
    · exact (hM.apart id _ hm a b g u2 u3).2 a' b' v2 v3
    · exact absurd (hM.inj i3 id _ _ g vm hm (.inr ⟨_, _, v2, v3⟩) (.inr ⟨_, _, u2, u3⟩)) vne
    · exact absurd (hM.inj i2 id _ _ g um hm (.inr ⟨_, _, u2, u3⟩) (.inr ⟨_, _, v2, v3⟩)) une
    · rw [u0] at v0; simp only [Option.some.injEq] at v0; subst v0
      obtain ⟨h5, h6⟩ := (hM.apart i2 _ um (a - es.length) b g u2 u3).2 (a' - es.length) b' v2 v3
      exact ⟨by omega, h6⟩
  have fin : ∀ (q : Phys) (w1 : World), q.row = rowsN → Bel w0.heap.size w w1 → (∀ k o, μ k = some o → w1.heap[k]? = some o) → (∀ j b' g, memDel (killM id (kmS src m)) id j = some b' → b'.owns (φ j) g → w1.heap[g]? = w.heap[g]?) →
      (∀ g, q.g = some g → w0.heap.size ≤ g ∧ μ g = none ∧ (∀ j b', memDel (killM id (kmS src m)) id j = some b' → ¬ b'.owns (φ j) g) ∧ ∀ a b, (Blk.nest s e (es ++ new)).rowAt a b = true → (rowsN a b).g ≠ some g) →
      (RepNest E.P μ (fun k => if k = id then q else φ k) w1 id s e (es ++ new)) →
      RelM E.P G w0 μ (fun k => if k = id then q else φ k) (memSet (memDel (killM id (kmS src m)) id) id (.nest s e (es ++ new))) w1 ∧ FrOk E.P μ (fun k => if k = id then q else φ k) (memSet (memDel (killM id (kmS src m)) id) id (.nest s e (es ++ new))) (killF id (kfS src f)) ρ := by
    intro q w1 hq hbel hro hold hown hrep
    refine ⟨hM1.put (by simp) hbel hro hold (fun g hg => ?_) (fun a b g hrr hg => ?_) hrep (by simp [Blk.names]) (fun st h => by cases h), hF1.mono (fun _ _ h => h) fun j hj => ⟨by simp [hlive2 j hj], by rw [memSet_ne (hlive2 j hj)]; exact hj⟩⟩
    · rcases hg with hg | ⟨a, b, hrr, hg⟩
      · obtain ⟨o1, o2, o3, _⟩ := hown g hg
        exact ⟨o1, o2, o3⟩
      · rw [hq] at hg
        obtain ⟨o1, o2, _, o3⟩ := hrowOwn a b g hrr hg
        exact ⟨o1, o2, o3⟩
    · rw [hq] at hg
      refine ⟨fun h => (hown g h).2.2.2 a b hrr hg, fun a' b' hrr' hg' => ?_⟩
      rw [hq] at hg'
      exact hrowApart a b a' b' g hrr hg hrr' hg'
  rcases hcase with ⟨rfl, rfl, h1, h2⟩ | ⟨g', cap', c', rfl, b1, b2, b3, b4, b5, b6⟩
  · have h1 : es = [] := List.eq_nil_of_length_eq_zero h1
    have h2 : new = [] := List.eq_nil_of_length_eq_zero h2
    obtain ⟨k1, k2⟩ := fin { g := none, cap := 0, len := 0, sz := s, row := rowsN } w' rfl (Bel.refl _ _) hM.ro (fun _ _ _ _ _ => rfl) (fun g hg => by cases hg) ⟨by simp [h1, h2], by simp, hs, hsp, by simp [h1, h2], by simp [maxLen], by simp [h1, h2]⟩
    exact ⟨w', _, _, hr, k1, k2, .osN (by simp)⟩
  · have hq : ∀ (w1 : World), w1.heap[g']? = some (.cells c' e (0, 0)) → NCells E.P μ rowsN w1 s (es ++ new) (os ++ xs) →
        RepNest E.P μ (fun k => if k = id then ({ g := some g', cap := cap', len := (es ++ new).length, sz := s, row := rowsN } : Phys) else φ k) w1 id s e (es ++ new) := fun w1 hh hC1 =>
      NCells.nest (g := g') (c := c') (by simp) hs hsp (by simpa using b4) hh (by simpa using b2) (by simpa [hll] using b3) (by rw [hll, b5]; simpa using hC1)
    have hrepY : RepV E.P μ (fun k => if k = id then ({ g := some g', cap := cap', len := (es ++ new).length, sz := s, row := rowsN } : Phys) else φ k) (.os id) (.slice (some ⟨g', 0, none⟩) (es.length + new.length) cap') := by
      have := RepV.os (P := E.P) (μ := μ) (φ := fun k => if k = id then ({ g := some g', cap := cap', len := (es ++ new).length, sz := s, row := rowsN } : Phys) else φ k) (id := id) (g := g') (by simp)
      simp only [if_true] at this
      rw [← hll]; exact this
    rcases b6 with ⟨cap0, hys, b6, b7⟩ | ⟨rfl, rfl⟩
    · have hg' : (φ id).g = some g' := by
        have key : ∀ z, RepV E.P μ φ (.os id) z → z = .slice (some ⟨g', 0, none⟩) es.length cap0 → (φ id).g = some g' := by
          intro z hz he
          cases hz with
          | osN _ => cases he
          | os hg =>
            simp only [Value.slice.injEq, Option.some.injEq, Addr.mk.injEq] at he
            rw [← he.1.1]; exact hg
        exact key _ ha hys
      obtain ⟨o1, o2⟩ := hM.own id _ g' hm (.inl hg')
      have hnr : ∀ a b, (Blk.nest s e (es ++ new)).rowAt a b = true → (rowsN a b).g ≠ some g' := by
        intro a b hrr hg
        rcases hrow a b g' hrr hg with ⟨u1, u2, u3⟩ | ⟨u1, i2, u0, une, um, u2, u3⟩
        · exact (hM.apart id _ hm a b g' u2 u3).1 hg'
        · exact une (hM.inj i2 id _ _ g' um hm (.inr ⟨_, _, u2, u3⟩) (.inl hg'))
      have hoth : ∀ j b', memDel (killM id (kmS src m)) id j = some b' → ¬ b'.owns (φ j) g' := fun j b' hj ho => by
        obtain ⟨k1, _, b2, k3, k4⟩ := hmem j b' hj
        exact k1 (hM.inj j id _ _ g' k3 hm (hownsm k4 ho) (.inl hg'))
      obtain ⟨k1, k2⟩ := fin { g := some g', cap := cap', len := (es ++ new).length, sz := s, row := rowsN } w' rfl (b6.mono o1) (fun k o hk => by rw [b7 k (fun e => by subst e; rw [o2 rfl] at hk; cases hk)]; exact hM.ro k o hk)
        (fun j b' g hj ho => b7 g fun e => by subst e; exact hoth j b' hj ho) (fun g hg => by
          simp only [Option.some.injEq] at hg; subst hg; exact ⟨o1, o2 rfl, hoth, hnr⟩)
        (hq w' b1 (hCC.stable fun a e1 b p1 g he hp hrr hg => b7 g fun e => by subst e; exact hnr a b (by rw [rowAt_nest he hp]; exact hrr) hg))
      exact ⟨w', _, _, hr, k1, k2, hrepY⟩
    · have hold : ∀ k, k < w.heap.size → (w.drew.alloc (.cells c' e)).heap[k]? = w.heap[k]? := fun k hk => Bel.heap_alloc w.drew _ k hk
      obtain ⟨k1, k2⟩ := fin { g := some w.heap.size, cap := cap', len := (es ++ new).length, sz := s, row := rowsN } (w.drew.alloc (.cells c' e)) rfl ((Bel.refl _ w).drew.alloc hM.below.size _) (fun k o hk => by
          have := hM.ro k o hk
          rw [hold k (Array.getElem?_eq_some_iff.1 this).1]; exact this)
        (fun j b' g hj ho => hold g ((hM1.blk j b' hj).glt ho)) (fun g hg => by
          simp only [Option.some.injEq] at hg; subst hg
          refine ⟨hM.below.size, ?_, fun j b' hj ho => ?_, fun a b hrr hg => ?_⟩
          · cases hq : μ w.heap.size with
            | none => rfl
            | some o' => have := hM.ro _ _ hq; simp at this
          · have := (hM1.blk j b' hj).glt ho; omega
          · have := (hrowOwn a b _ hrr hg).2.2.1; omega)
        (hq _ b1 (hCC.stable fun a e1 b p1 g he hp hrr hg => hold g (hrowOwn a b g (by rw [rowAt_nest he hp]; exact hrr) hg).2.2.1))
      exact ⟨_, _, _, hr, k1, k2, hrepY⟩
theorem take1_none {m : Mem} : ∀ {cs : List V} {j0 : Nat} {ps : List PV}, take1 m j0 cs = some (ps, none) → ∀ m2 : Mem, take1 m2 j0 cs = some (ps, none)
  | [], j0, ps, h, m2 => h
  | v :: r, j0, ps, h, m2 => by
    unfold take1 at h
    split at h
    · rename_i heq; cases heq
    · rename_i j id r' heq
      split at h
      · split at h
        · simp at h
        · cases h
      · cases h
    · rename_i j v' r' hne heq
      simp only [List.cons.injEq] at heq
      obtain ⟨rfl, rfl⟩ := heq
      unfold take1
      split
      · rename_i heq; cases heq
      · rename_i j id r' heq
        simp only [List.cons.injEq] at heq
        exact absurd heq.1 (hne id)
      · rename_i j v' r' hne heq
        simp only [List.cons.injEq] at heq
        obtain ⟨rfl, rfl⟩ := heq
        split at h
        · rename_i p hp
          split at h
          · rename_i ps' t ht
            simp only [Option.some.injEq, Prod.mk.injEq] at h
            obtain ⟨rfl, rfl⟩ := h
            rw [take1_none ht m2]
          · cases h
        · cases h
theorem take1_congr {m m2 : Mem} {j id2 : Nat} (hm : m2 id2 = m id2) : ∀ {cs : List V} {j0 : Nat} {ps : List PV}, take1 m j0 cs = some (ps, some (j, id2)) → take1 m2 j0 cs = some (ps, some (j, id2))
  | [], j0, ps, h => by simp [take1] at h
  | v :: r, j0, ps, h => by
    unfold take1 at h
    split at h
    · rename_i heq; cases heq
    · rename_i j id r' heq
      simp only [List.cons.injEq] at heq
      obtain ⟨rfl, rfl⟩ := heq
      split at h
      · rename_i s et es hmm
        split at h
        · rename_i ps' ht
          simp only [Option.some.injEq, Prod.mk.injEq] at h
          obtain ⟨rfl, rfl, rfl⟩ := h
          simp only [take1, hm, hmm, take1_none ht m2]
        · cases h
      · cases h
    · rename_i j v' r' hne heq
      simp only [List.cons.injEq] at heq
      obtain ⟨rfl, rfl⟩ := heq
      unfold take1
      split
      · rename_i heq; cases heq
      · rename_i j id r' heq
        simp only [List.cons.injEq] at heq
        exact absurd heq.1 (hne id)
      · rename_i j v' r' hne heq
        simp only [List.cons.injEq] at heq
        obtain ⟨rfl, rfl⟩ := heq
        split at h
        · rename_i p hp
          split at h
          · rename_i ps' t ht
            simp only [Option.some.injEq, Prod.mk.injEq] at h
            obtain ⟨rfl, rfl⟩ := h
            rw [take1_congr hm ht]
          · cases h
        · cases h
theorem spOf_congr {site : Nat} {o : Oper} {f f2 : Fr} {m m2 : Mem} {sp : Sp} (h : spOf E site o f m = some sp) (hf : ∀ x ∈ o.op.operands, opd E f2 x = opd E f x) (hm : ∀ x ∈ (sp.info site).2, m2 x.2 = m x.2) : spOf E site o f2 m2 = some sp := by
  obtain ⟨dst, op, type, pos, after, guard⟩ := o
  unfold spOf at h ⊢
  cases op
  case store t a x =>
    simp only at h ⊢
    rw [hf a (by simp [Op.operands]), hf x (by simp [Op.operands])]
    split at h
    · rename_i id i off ha
      split at h
      · rename_i s et es hmm
        split at h
        · rename_i cs hc
          split at h
          · rename_i ps j id2 ht
            split at h
            · rename_i hcond
              simp only [Option.some.injEq] at h; subst h
              have h1 : m2 id = m id := hm (true, id) (by simp [Sp.info])
              have h2 : m2 id2 = m id2 := hm (true, id2) (by simp [Sp.info])
              simp only [ha, h1, hmm, hc, take1_congr h2 ht, hcond, if_true]
            · cases h
          · cases h
        · cases h
      · cases h
    · cases h
  case buildSlice t len parts =>
    simp only at h ⊢
    have hpc : (parts.toList.map fun (x : Nat × Operand) => (x.1, opd E f2 x.2)) = parts.toList.map fun (x : Nat × Operand) => (x.1, opd E f x.2) :=
      List.map_congr_left fun x hx => by rw [hf x.2 (by simp only [Op.operands, List.mem_toArray, List.mem_map]; exact ⟨x, hx, rfl⟩)]
    rw [hpc]
    split at h
    · rename_i e v hu hp
      split at h
      · rename_i cs hc
        split at h
        · rename_i ps j id2 ht hs
          split at h
          · rename_i p hpe
            split at h
            · rename_i hcond
              simp only [Option.some.injEq] at h; subst h
              have h1 : m2 site = m site := hm (true, site) (by simp [Sp.info])
              have h2 : m2 id2 = m id2 := hm (true, id2) (by simp [Sp.info])
              simp only [hu, hp, hc, take1_congr h2 ht, h1, hs, hpe, hcond, if_true]
            · cases h
          · cases h
        · cases h
      · cases h
    · cases h
  case call c =>
    obtain ⟨callee, args, argTypes⟩ := c
    simp only at h ⊢
    have hargs : args.toList.map (opd E f2) = args.toList.map (opd E f) :=
      List.map_congr_left fun x hx => hf x (by simp only [Op.operands, Call.operands]; cases callee <;> simp [Array.mem_toList_iff.1 hx])
    rw [hargs]
    split at h
    · rename_i id x t t' ha hty
      split at h
      · rename_i e s et es hu hmm
        split at h
        · rename_i hcond
          have plain : ∀ {new : List PV} {rd : Foot}, elemsV m s x = some (new, rd) → x.has id = false → sp = .app id s et es new none rd → elemsV m2 s x = some (new, rd) := by
            intro new rd hel hxh hsp
            subst hsp
            obtain ⟨e1, _, _⟩ := elemsV_ok hel
            exact e1 m2 fun y hy => hm y (by simp [Sp.info, hy])
          split at h
          · rename_i id'
            split at h
            · rename_i s' et' new hm'
              split at h
              · rename_i hc2
                simp only [Option.some.injEq] at h; subst h
                have h1 : m2 id = m id := hm (true, id) (by simp [Sp.info])
                have h2 : m2 id' = m id' := hm (true, id') (by simp [Sp.info])
                simp only [ha, hty, hu, h1, hmm, hcond, if_true, h2, hm', hc2]
              · cases h
            · rename_i hnn
              split at h
              · rename_i new rd hel
                split at h
                · cases h
                · rename_i hxh
                  simp only [Option.some.injEq] at h
                  have hel2 := plain hel (by simpa using hxh) h.symm
                  subst h
                  have h1 : m2 id = m id := hm (true, id) (by simp [Sp.info])
                  simp only [ha, hty, hu, h1, hmm, hcond, if_true, hel2]
                  split
                  · rename_i s' et' new' hm2
                    exfalso
                    simp only [elemsV, hm2] at hel2
                    cases hel2
                  · rw [if_neg hxh]
              · cases h
          · rename_i hnos
            split at h
            · rename_i new rd hel
              split at h
              · cases h
              · rename_i hxh
                simp only [Option.some.injEq] at h
                have hel2 := plain hel (by simpa using hxh) h.symm
                subst h
                have h1 : m2 id = m id := hm (true, id) (by simp [Sp.info])
                simp only [ha, hty, hu, h1, hmm, hcond, if_true, hel2]
                try rw [if_neg hxh]
            · cases h
        · cases h
      · cases h
    · cases h
  case mapUpdate t x key v =>
    simp only at h ⊢
    rw [hf x (by simp [Op.operands]), hf key (by simp [Op.operands]), hf v (by simp [Op.operands])]
    split at h
    · rename_i kt et id id2 hu hx hv
      split at h
      · rename_i kt' e es s e' rs kp h1 h2 hk
        split at h
        · rename_i hcond
          simp only [Option.some.injEq] at h; subst h
          have h3 : m2 id = m id := hm (true, id) (by simp [Sp.info])
          have h4 : m2 id2 = m id2 := hm (true, id2) (by simp [Sp.info])
          simp only [hu, hx, hv, h3, h4, h1, h2, hk, hcond, if_true]
        · cases h
      · cases h
    · cases h
  all_goals (cases h)
end
end Go.Ab
