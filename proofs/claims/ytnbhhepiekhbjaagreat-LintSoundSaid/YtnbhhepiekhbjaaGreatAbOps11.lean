/- The abstract operations are right, eleventh part: 'make', values that are written out. -/
import Derived.Test.YtnbhhepiekhbjaaGreatAbOps10
set_option linter.unusedVariables false
namespace Go.Ab
open Go.RowKit (Below)

section
variable {R : Type} {E : Env}

theorem cells_one {x : Value} (h : x.oneCell' = true) : x.cells = #[x] := by
  cases x <;> first | rfl | (simp [Value.oneCell'] at h)
theorem RepPV.elem {P : Program} {μ : Ro} {n : Nat} {p : PV} {x : Value} (h : RepPV P μ p x) (hl : p.cells.length = n) (hp : p.plain = true) : ElemOk P μ n p x := by
  cases hq : p.isAgg with
  | true =>
    cases p <;> simp [PV.isAgg] at hq
    cases h with
    | agg h1 h2 h3 => exact ⟨hl, by simp only [PV.cells] at hl; simp only [Value.cells]; omega, h2, h3⟩
  | false =>
    have hc : p.cells = [p] := by cases p <;> first | rfl | (simp [PV.isAgg] at hq)
    have h1 : x.oneCell' = true := h.one (fun cs e => by subst e; simp [PV.isAgg] at hq) (fun cs e => by subst e; simp [PV.plain] at hp) (fun e => by subst e; simp [PV.plain] at hp)
    have hx := cells_one h1
    refine ⟨hl, by rw [hx]; rw [hc] at hl; simpa using hl, fun j q y hj hy => ?_, fun j y hy => ?_⟩
    · rw [hc] at hj; rw [hx] at hy
      cases j with
      | zero => simp at hj hy; subst hj; subst hy; exact h
      | succ j => simp at hj
    · rw [hx] at hy
      cases j with
      | zero => simp at hy; subst hy; exact h1
      | succ j => simp at hy
theorem zeroPV_ok {t : TypeId} {z : PV} (h : zeroPV E t = some z) : ∃ i zv, E.P.info? t = some i ∧ i.zero = some zv ∧ i.size = csz E.P t ∧ (∀ μ, RepPV E.P μ z zv) ∧ ∀ μ, ElemOk E.P μ (csz E.P t) z zv := by
  unfold zeroPV zeroV at h
  cases hi : E.P.info? t with
  | none => simp [hi] at h
  | some i =>
    cases hz : i.zero with
    | none => simp [hi, hz] at h
    | some zv =>
      simp only [hi, hz, Option.bind_some, Option.map_some] at h
      split at h
      · rename_i p hp
        split at h
        · rename_i hc
          simp only [Option.some.injEq] at h; subst h
          have hr : ∀ μ, RepPV E.P μ p zv := fun μ => frz_pure 2 hp (ofVal_rep (φ := fun _ => default) zv)
          exact ⟨i, zv, rfl, hz, by simp [csz, hi], hr, fun μ => (hr μ).elem hc.2.1 hc.2.2⟩
        · cases h
      · cases h
theorem zeroPV_run {t : TypeId} {z : PV} (h : zeroPV E t = some z) : ∃ zv, (∀ w, (zeroValue t).run E.P w = .ok zv w) ∧ ∀ μ, RepPV E.P μ z zv := by
  obtain ⟨i, zv, h1, h2, h3, h4, _⟩ := zeroPV_ok h
  exact ⟨zv, fun w => run_zeroValue h1 h2, h4⟩
theorem Cells.made {P : Program} {μ : Ro} {sz : Nat} {z : PV} {zv : Value} (hE : ElemOk P μ sz z zv) (hpos : 0 < sz) (n cap : Nat) (hn : n ≤ cap) :
    Cells P μ sz (List.replicate n z) ((madeCells zv.cells (cap * sz)).toList.take ((List.replicate n z).length * sz)) := by
  have hle : n * sz ≤ cap * sz := Nat.mul_le_mul_right _ hn
  have hget : ∀ k y, ((madeCells zv.cells (cap * sz)).toList.take ((List.replicate n z).length * sz))[k]? = some y → zv.cells[k % sz]? = some y := by
    intro k y hk
    obtain ⟨h1, h2⟩ := take_get hk
    simp only [List.length_replicate] at h1
    have hlt : k % sz < zv.cells.size := by rw [hE.size]; exact Nat.mod_lt _ hpos
    rw [Array.getElem?_toList, madeCells, Array.getElem?_map, Array.getElem?_range] at h2
    rw [if_pos (by omega)] at h2
    simp only [Option.map_some, Option.some.injEq, hE.size] at h2
    rw [getElem!_pos zv.cells (k % sz) hlt] at h2
    rw [Array.getElem?_eq_getElem hlt, h2]
  refine ⟨by rw [List.length_take, List.length_replicate, Array.length_toList, size_madeCells]; omega, fun i e hi => ?_, fun i e j p y hi hj hy => ?_, fun k y hk => hE.one _ y (hget k y hk)⟩
  · rw [List.getElem?_replicate] at hi
    split at hi
    · simp only [Option.some.injEq] at hi; subst hi; exact hE.len
    · cases hi
  · rw [List.getElem?_replicate] at hi
    split at hi
    · simp only [Option.some.injEq] at hi; subst hi
      have hjl : j < sz := by rw [← hE.len]; exact (List.getElem?_eq_some_iff.1 hj).1
      have := hget _ y hy
      rw [Nat.mul_comm, Nat.mul_add_mod, Nat.mod_eq_of_lt hjl] at this
      exact hE.rep j p y hj this
    · cases hi

theorem xmakeSlice_ok {draw : Bool} {site : Nat} {t : TypeId} {len cap : V} {f : Fr} {m : Mem} {k : V → Fr → Mem → Foot → Option R} {r : R} (h : xmakeSlice E draw site t len cap f m k = some r) :
    ∃ f' m' b, (draw = true → m site = none ∧ f' = f ∧ m' = memSet m site b ∧ ∀ (f2 : Fr) (m2 : Mem), m2 site = none → ∀ (R' : Type) (k' : V → Fr → Mem → Foot → Option R'), xmakeSlice E true site t len cap f2 m2 k' = k' (.os site) f2 (memSet m2 site b) [(true, site)]) ∧
    k (.os site) f' m' [(true, site)] = some r ∧ (m' site).isSome = true ∧
    ∀ (G : Nat → Option (List PV)) (w0 : Base) (μ : Ro) (φ : Nat → Phys) (w : World) (ρ : Nat → Value) (yl yc : Value), RelM E.P G w0 μ φ m w → FrOk E.P μ φ m f ρ → RepV E.P μ φ len yl → RepV E.P μ φ cap yc →
      ∃ w' y φ', (Instr.makeSlice t yl yc).run E.P w = .ok y w' ∧ RelM E.P G w0 μ φ' m' w' ∧ FrOk E.P μ φ' m' f' ρ ∧ RepV E.P μ φ' (.os site) y := by
  unfold xmakeSlice at h
  split at h
  · rename_i e ql n qc c hu
    split at h
    · rename_i z hz
      split at h
      · rename_i hb
        obtain ⟨f', m', _, hk, hms, hdr, hfr⟩ := fresh_ok h
        refine ⟨f', m', .arr (csz E.P e) e (List.replicate n.toNat z), fun hd => ?_, hk, by simp [hms], fun G w0 μ φ w ρ yl yc hM hF hl hc => ?_⟩
        · obtain ⟨d1, d2, d3⟩ := hdr hd
          refine ⟨d1, d2, d3, fun f2 m2 hm2 R' k' => ?_⟩
          simp only [xmakeSlice, hu, hz]; rw [if_pos hb]; simp [fresh, hm2]
        · obtain ⟨i, zv, h1, h2, h3, _, h4⟩ := zeroPV_ok hz
          obtain ⟨hib, _⟩ := bytes_und h1
          have hc1 : c.toNat ≤ 140737488355328 := by
            have : c.toNat * 1 ≤ c.toNat * bsz E.P e := Nat.mul_le_mul_left _ hb.2.2.2.1
            have := hb.2.2.1; simp only [roomBound] at this; omega
          cases hl with
          | pv hl => cases hl with
            | int wl =>
              cases hc with
              | pv hc => cases hc with
                | int wc =>
                  have hbytes : (i.bytes : Int) * c ≤ 281474976710656 := by
                    have h5 := hb.2.2.1
                    simp only [roomBound] at h5
                    have h6 : ((c.toNat * bsz E.P e : Nat) : Int) ≤ 140737488355328 := by omega
                    rw [Int.natCast_mul, Int.toNat_of_nonneg (by omega)] at h6
                    rw [hib, Int.mul_comm]; omega
                  have hr := run_make (P := E.P) w t e i zv hu h1 h2 ql qc n c hb.1 hb.2.1 hbytes (by omega)
                  rw [h3] at hr
                  obtain ⟨φ', a1, a2, a3⟩ := hfr E.P G w0 μ φ w _ ρ ⟨some w.heap.size, c.toNat, (List.replicate n.toNat z).length, csz E.P e⟩ hM hF (PutOk.alloc (o := .cells (madeCells zv.cells (c.toNat * csz E.P e)) e) hM rfl
                    (fun φ' hp _ => RepArr.of_cells (g := w.heap.size) (by rw [hp]) rfl hb.2.2.2.2 (by rw [hp]; simp only [maxLen]; omega) (alloc_new w _) (by rw [hp]; simp [size_madeCells]) (by rw [hp]; simp; omega) (Cells.made (h4 μ) hb.2.2.2.2 _ _ (by omega))) (by simp [Blk.names]))
                  refine ⟨_, _, φ', hr, a2, a3, ?_⟩
                  have := RepV.os (P := E.P) (μ := μ) (φ := φ') (id := site) (g := w.heap.size) (by rw [a1])
                  rw [a1] at this; simpa using this
      · cases h
    · cases h
  · cases h
theorem fill_splice (off : Nat) : ∀ (l : List Value) (k : Nat) (c : Array Value), off + k + l.length ≤ c.size →
    (l.zipIdx k).foldl (fun cs (x : Value × Nat) => cs.setIfInBounds (off + x.2) x.1) c = (splice c.toList (off + k) l).toArray
  | [], k, c, _ => by simp [splice_eq]
  | v :: r, k, c, h => by
    simp only [List.zipIdx_cons, List.foldl_cons]
    rw [fill_splice off r (k + 1) _ (by simp at h ⊢; omega)]
    congr 1
    have e := list_seg_step c.toList (off + k) v r (by simp at h ⊢; omega)
    simp only [splice_eq, Array.toList_setIfInBounds, ← Nat.add_assoc]
    rw [e]
    simp
theorem fill_step {place : Nat → Option (Nat × Nat)} {c : Array Value} {i off size : Nat} {v : Value} {rest : List (Nat × Value)} (hp : place i = some (off, size)) (hv : v.cells.size = size) (hb : off + size ≤ c.size) :
    Instr.fill place c ((i, v) :: rest) = Instr.fill place (splice c.toList off v.cells.toList).toArray rest := by
  have h1 : v.cells.zipIdx.foldl (fun cs (x : Value × Nat) => cs.setIfInBounds (off + x.2) x.1) c = (splice c.toList off v.cells.toList).toArray := by
    rw [← Array.foldl_toList, Array.toList_zipIdx]
    exact fill_splice off v.cells.toList 0 c (by simp; omega)
  simp only [Instr.fill, hp]
  rw [if_neg (by simp [hv]; omega)]
  rw [← h1]

theorem fillV_ok {place : Nat → Option (Nat × Nat)} : ∀ {parts : List (Nat × V)} {cs cs' : List V}, fillV place cs parts = some cs' → (∀ id, hasL id cs' = true → hasL id cs = true ∨ hasL id (parts.map (·.2)) = true) ∧ cs'.length = cs.length ∧
    ∀ (P : Program) (μ : Ro) (φ : Nat → Phys) (c : Array Value) (parts' : List (Nat × Value)), parts'.length = parts.length → (∀ (j i : Nat) v, parts[j]? = some (i, v) → ∃ y, parts'[j]? = some (i, y) ∧ RepV P μ φ v y) →
      c.size = cs.length → (∀ (i : Nat) u y, cs[i]? = some u → c[i]? = some y → RepV P μ φ u y) → (∀ (i : Nat) (y : Value), c[i]? = some y → y.oneCell' = true) →
      ∃ c', Instr.fill place c parts' = some c' ∧ c'.size = cs'.length ∧ (∀ (i : Nat) u y, cs'[i]? = some u → c'[i]? = some y → RepV P μ φ u y) ∧ (∀ (i : Nat) (y : Value), c'[i]? = some y → y.oneCell' = true)
  | [], cs, cs', h => by
    simp only [fillV, Option.some.injEq] at h; subst h
    refine ⟨fun id hid => .inl hid, rfl, fun P μ φ c parts' hl _ hs hr h1 => ?_⟩
    have : parts' = [] := List.eq_nil_of_length_eq_zero (by simpa using hl)
    subst this
    exact ⟨c, rfl, hs, hr, h1⟩
  | (i, v) :: rest, cs, cs', h => by
    simp only [fillV] at h
    split at h
    · rename_i off size hp
      split at h
      · rename_i new hn
        split at h
        · rename_i hb
          obtain ⟨n1, n2, n3⟩ := toCells_ok hn
          obtain ⟨f1, f2, f3⟩ := fillV_ok h
          have hlen : (splice cs off new).length = cs.length := splice_length (by omega)
          refine ⟨fun id hid => ?_, by rw [f2, hlen], fun P μ φ c parts' hl hpv hs hr h1 => ?_⟩
          · rcases f1 id hid with h | h
            · obtain ⟨u, hu, hh⟩ := hasL_iff.1 h
              simp only [splice_eq, List.mem_append] at hu
              rcases hu with (hu | hu) | hu
              · exact .inl (hasL_mem (List.mem_of_mem_take hu) hh)
              · exact .inr (by simp only [List.map_cons, hasL, Bool.or_eq_true]; exact .inl (n2 id (hasL_mem hu hh)))
              · exact .inl (hasL_mem (List.mem_of_mem_drop hu) hh)
            · exact .inr (by simp only [List.map_cons, hasL, Bool.or_eq_true]; exact .inr h)
          · obtain ⟨y, hy, hvy⟩ := hpv 0 i v (by simp)
            cases parts' with
            | nil => simp at hl
            | cons a rest' =>
              simp at hy; subst hy
              obtain ⟨x1, x2, x3⟩ := n3 P μ φ y hvy
              rw [fill_step hp x1 (by omega)]
              have hfit : off + y.cells.toList.length ≤ c.toList.length := by simp; omega
              have e1 : y.cells.toList.length = new.length := by simp; omega
              refine f3 P μ φ _ rest' (by simpa using hl) (fun j i' v' hj => ?_) ?_ (fun j u z hu hz => ?_) (fun j z hz => ?_)
              · have := hpv (j + 1) i' v' (by simpa using hj)
                simpa using this
              · simp only [List.size_toArray]
                rw [splice_length hfit, hlen]; simp [hs]
              · rw [List.getElem?_toArray] at hz
                rcases splice_get hfit hz with ⟨b1, b2, b3⟩ | ⟨b1, b2⟩ <;> rcases splice_get (by omega) hu with ⟨d1, d2, d3⟩ | ⟨d1, d2⟩
                · exact x2 _ u z d3 (by simpa using b3)
                · exfalso; omega
                · exfalso; omega
                · exact hr j u z d2 (by simpa using b2)
              · rw [List.getElem?_toArray] at hz
                rcases splice_get hfit hz with ⟨b1, b2, b3⟩ | ⟨b1, b2⟩
                · exact x3 _ z (by simpa using b3)
                · exact h1 j z (by simpa using b2)
        · cases h
      · cases h
    · cases h

theorem places_all : ∀ {fs : List Field}, fs.all (fun f => (E.P.info? f.type).isSome) = true → fs.mapM (fun f => (E.P.info? f.type).map fun i => (f.offset, i.size)) = some (fs.map fun f => (f.offset, csz E.P f.type))
  | [], _ => rfl
  | f :: r, h => by
    simp only [List.all_cons, Bool.and_eq_true] at h
    obtain ⟨i, hi⟩ := Option.isSome_iff_exists.1 h.1
    simp only [List.mapM_cons, hi, Option.map_some, places_all h.2, List.map_cons]
    simp [csz, hi]

theorem xbuild_ok {t : TypeId} {parts : List (Nat × V)} {k : V → Option R} {r : R} (h : xbuild E t parts k = some r) :
    ∃ v, (∀ (R' : Type) (k' : V → Option R'), xbuild E t parts k' = k' v) ∧ k v = some r ∧ (∀ id, v.has id = true → hasL id (parts.map (·.2)) = true) ∧
    ∀ (μ : Ro) (φ : Nat → Phys) (w : World) (parts' : Array (Nat × Value)), parts'.size = parts.length → (∀ (j i : Nat) v, parts[j]? = some (i, v) → ∃ y, parts'[j]? = some (i, y) ∧ RepV E.P μ φ v y) →
      ∃ z, (Instr.build t parts').run E.P w = .ok z w ∧ RepV E.P μ φ v z := by
  unfold xbuild at h
  split at h
  · rename_i z fs hz hu
    split at h
    · rename_i hall
      split at h
      · rename_i cs hf
        obtain ⟨i, zv, h1, h2, h3, h4, h5, h6, h7, h8⟩ := zeroCellsV_ok hz
        obtain ⟨f1, f2, f3⟩ := fillV_ok hf
        refine ⟨_, fun R' k' => by simp only [xbuild, hz, hu, hf]; rw [if_pos hall], h, fun id hid => ?_, fun μ φ w parts' hl hp => ?_⟩
        · simp only [V.has] at hid
          exact (f1 id hid).resolve_left (by rw [h6]; simp)
        · obtain ⟨c', c1, c2, c3, c4⟩ := f3 E.P μ φ zv.cells parts'.toList (by simpa using hl) (fun j i v hj => by simpa using hp j i v hj) (by omega) (h7 μ φ) h8
          refine ⟨_, run_build w t parts' c' ?_, .agg c2.symm c3 c4⟩
          simp only [Program.built, h1, hu, h2, places_all hall]
          rw [← c1]; congr 1
          funext j
          simp [placesOf]
      · cases h
    · cases h
  · rename_i z n e hz hu
    split at h
    · rename_i hpos
      split at h
      · rename_i cs hf
        obtain ⟨i, zv, h1, h2, h3, h4, h5, h6, h7, h8⟩ := zeroCellsV_ok hz
        obtain ⟨f1, f2, f3⟩ := fillV_ok hf
        refine ⟨_, fun R' k' => by simp only [xbuild, hz, hu, hf]; rw [if_pos hpos], h, fun id hid => ?_, fun μ φ w parts' hl hp => ?_⟩
        · simp only [V.has] at hid
          exact (f1 id hid).resolve_left (by rw [h6]; simp)
        · obtain ⟨c', c1, c2, c3, c4⟩ := f3 E.P μ φ zv.cells parts'.toList (by simpa using hl) (fun j i v hj => by simpa using hp j i v hj) (by omega) (h7 μ φ) h8
          obtain ⟨ie, hie, hse⟩ := csz_und (P := E.P) (t := e) (by omega)
          refine ⟨_, run_build w t parts' c' ?_, .agg c2.symm c3 c4⟩
          simp only [Program.built, h1, hu, h2, hie, hse]
          exact c1
      · cases h
    · cases h
  · cases h
theorem partsElems_ok {n : Nat} {agg : Bool} : ∀ {parts : List (Nat × V)} {m m' : Mem} {i : Nat} {ps : List PV}, partsElems m n agg i parts = some (ps, m') → Lives m m' ∧ ps.length = parts.length ∧
    ∀ (P : Program) (G : Nat → Option (List PV)) (w0 : Base) (μ : Ro) (φ : Nat → Phys) (w : World) (parts' : List (Nat × Value)) (es : List PV) (c : Array Value), RelM P G w0 μ φ m w → parts'.length = parts.length →
      (∀ (j i : Nat) v, parts[j]? = some (i, v) → ∃ y, parts'[j]? = some (i, y) ∧ RepV P μ φ v y) → es.length = i → c.size = (i + parts.length) * n → Cells P μ n es (c.toList.take (es.length * n)) →
      ∃ μ' c', (∀ b o, μ b = some o → μ' b = some o) ∧ RelM P G w0 μ' φ m' w ∧ Instr.fill (fun i => some (i * n, n)) c parts' = some c' ∧ c'.size = (i + parts.length) * n ∧ Cells P μ' n (es ++ ps) c'.toList
  | [], m, m', i, ps, h => by
    simp only [partsElems, Option.some.injEq, Prod.mk.injEq] at h; obtain ⟨rfl, rfl⟩ := h
    refine ⟨.refl _, rfl, fun P G w0 μ φ w parts' es c hM hl _ he hc hC => ⟨μ, c, fun _ _ h => h, hM, ?_, hc, ?_⟩⟩
    · have : parts' = [] := List.eq_nil_of_length_eq_zero (by simpa using hl)
      subst this; rfl
    · rw [List.append_nil]
      rw [List.take_of_length_le (by simp at hc ⊢; rw [hc, he]; exact Nat.le_refl _)] at hC
      exact hC
  | (j, v) :: r, m, m', i, ps, h => by
    simp only [partsElems] at h
    split at h
    · rename_i hij
      subst hij
      split at h
      · rename_i p m1 hf
        split at h
        · rename_i ps1 m2 hr
          simp only [Option.some.injEq, Prod.mk.injEq] at h; obtain ⟨rfl, rfl⟩ := h
          obtain ⟨a1, a2⟩ := frzElem_ok hf
          obtain ⟨b1, b2, b3⟩ := partsElems_ok hr
          refine ⟨a1.trans b1, by simp [b2], fun P G w0 μ φ w parts' es c hM hl hp he hc hC => ?_⟩
          obtain ⟨y, hy, hvy⟩ := hp 0 i v (by simp)
          cases parts' with
          | nil => simp at hl
          | cons a rest' =>
            simp at hy; subst hy
            obtain ⟨μ1, c1, c2, c3⟩ := a2 P G w0 μ φ w y hM hvy
            have hfit : i * n + n ≤ c.size := by
              rw [hc]
              have : (i + 1) * n ≤ (i + (r.length + 1)) * n := Nat.mul_le_mul_right _ (by omega)
              rw [Nat.add_mul] at this; simp at this ⊢; omega
            have hyl : y.cells.toList.length = n := by simpa using c3.size
            have hfit' : i * n + y.cells.toList.length ≤ c.toList.length := by rw [hyl]; simpa using hfit
            obtain ⟨μ2, c', d1, d2, d3, d4, d5⟩ := b3 P G w0 μ1 φ w rest' (es ++ [p]) (splice c.toList (i * n) y.cells.toList).toArray c2 (by simpa using hl) (fun j i' v' hj => by
                obtain ⟨z, hz1, hz2⟩ := hp (j + 1) i' v' (by simpa using hj)
                exact ⟨z, by simpa using hz1, hz2.monoR c1⟩) (by simp [he]) (by
                simp only [List.size_toArray]; rw [splice_length hfit']; simp only [Array.length_toList, hc, List.length_cons]; congr 1; omega) (by
                have e1 : ((splice c.toList (i * n) y.cells.toList).toArray.toList.take ((es ++ [p]).length * n)) = c.toList.take (es.length * n) ++ y.cells.toList := by
                  simp only [splice_eq, List.length_append, List.length_singleton, he]
                  exact List.take_left' (by rw [List.length_append, hyl, List.length_take, Nat.min_eq_left (by simp; omega), Nat.add_mul, Nat.one_mul])
                rw [e1]
                refine (hC.mono c1).append ⟨by simp [hyl], fun k e hk => ?_, fun k e l q z hk hl hz => ?_, fun k z hz => c3.one k z (by simpa using hz)⟩
                · cases k with
                  | zero => simp at hk; subst hk; exact c3.len
                  | succ k => simp at hk
                · cases k with
                  | zero => simp at hk; subst hk; exact c3.rep l q z hl (by simpa using hz)
                  | succ k => simp at hk)
            refine ⟨μ2, c', fun b o h => d1 b o (c1 b o h), d2, ?_, by rw [d4]; simp only [List.length_cons]; congr 1; omega, by simpa using d5⟩
            rw [fill_step rfl c3.size hfit]; exact d3
        · cases h
      · cases h
    · cases h

theorem partsV_ok : ∀ {parts : List (Nat × V)} {i : Nat} {cs : List V}, partsV i parts = some cs → cs.length = parts.length ∧ (∀ id, hasL id cs = true → hasL id (parts.map Prod.snd) = true) ∧
    ∀ (P : Program) (μ : Ro) (φ : Nat → Phys) (parts' : List (Nat × Value)) (c : Array Value), parts'.length = parts.length →
      (∀ (j i : Nat) v, parts[j]? = some (i, v) → ∃ y, parts'[j]? = some (i, y) ∧ RepV P μ φ v y) → c.size = i + parts.length →
      ∃ c', Instr.fill (fun i => some (i * 1, 1)) c parts' = some c' ∧ c'.size = c.size ∧ (∀ j, j < i → c'[j]? = c[j]?) ∧ ∀ j u, cs[j]? = some u → ∃ y, c'[i + j]? = some y ∧ RepV P μ φ u y ∧ y.oneCell' = true
  | [], i, cs, h => by
    simp only [partsV, Option.some.injEq] at h; subst h
    refine ⟨rfl, by simp [hasL], fun P μ φ parts' c hl _ hc => ⟨c, ?_, rfl, fun _ _ => rfl, by simp⟩⟩
    have : parts' = [] := List.eq_nil_of_length_eq_zero (by simpa using hl)
    subst this; rfl
  | (j, v) :: r, i, cs, h => by
    simp only [partsV] at h
    split at h
    · rename_i hij
      subst hij
      split at h
      · rename_i us0 hf
        split at h
        · rename_i us hr
          simp only [Option.some.injEq] at h; subst h
          obtain ⟨a1, a2, a3⟩ := toCells_ok hf
          obtain ⟨b1, b2, b3⟩ := partsV_ok hr
          refine ⟨by simp [a1, b1]; omega, fun id hid => ?_, fun P μ φ parts' c hl hp hc => ?_⟩
          · obtain ⟨u, hu, hh⟩ := hasL_iff.1 hid
            rcases List.mem_append.1 hu with hu | hu
            · simp only [List.map_cons, hasL, Bool.or_eq_true]; exact .inl (a2 id (hasL_mem hu hh))
            · simp only [List.map_cons, hasL, Bool.or_eq_true]; exact .inr (b2 id (hasL_mem hu hh))
          · obtain ⟨y, hy, hvy⟩ := hp 0 i v (by simp)
            cases parts' with
            | nil => simp at hl
            | cons a rest' =>
              simp at hy; subst hy
              obtain ⟨c1, c2, c3⟩ := a3 P μ φ y hvy
              have hfit : i * 1 + 1 ≤ c.size := by simp at hc; omega
              have hyl : y.cells.toList.length = 1 := by simpa using c1
              have hfit' : i * 1 + y.cells.toList.length ≤ c.toList.length := by rw [hyl]; simpa using hfit
              obtain ⟨c', d1, d2, d3, d4⟩ := b3 P μ φ rest' (splice c.toList (i * 1) y.cells.toList).toArray (by simpa using hl) (fun j i' v' hj => by
                  obtain ⟨z, hz1, hz2⟩ := hp (j + 1) i' v' (by simpa using hj)
                  exact ⟨z, by simpa using hz1, hz2⟩) (by
                  simp only [List.size_toArray]; rw [splice_length hfit']; simp only [Array.length_toList, hc, List.length_cons]; omega)
              have hsp : ∀ k, (splice c.toList (i * 1) y.cells.toList).toArray[k]? = if k = i then y.cells[0]? else c[k]? := fun k => by
                rw [List.getElem?_toArray]
                rw [splice_eq]
                rw [List.append_assoc, List.getElem?_append, List.length_take, Nat.min_eq_left (by simp; omega), List.getElem?_append, hyl]
                by_cases h1 : k < i * 1
                · rw [if_pos h1, if_neg (by omega), List.getElem?_take_of_lt h1, Array.getElem?_toList]
                · rw [if_neg h1]
                  by_cases h2 : k = i
                  · subst h2; rw [if_pos (by omega), if_pos rfl]; simp
                  · rw [if_neg (by omega), if_neg h2, List.getElem?_drop, Array.getElem?_toList]; congr 1; omega
              refine ⟨c', ?_, by rw [d2]; simp only [List.size_toArray]; rw [splice_length hfit']; simp, fun k hk => ?_, fun k u hu => ?_⟩
              · rw [fill_step rfl c1 hfit]; exact d1
              · rw [d3 k (by omega), hsp, if_neg (by omega)]
              · have h0 : us0.length = 1 := a1
                rw [List.getElem?_append, h0] at hu
                split at hu
                · rename_i hk
                  have hk0 : k = 0 := by omega
                  subst hk0
                  have h5 := d3 i (by omega)
                  rw [hsp, if_pos rfl] at h5
                  have hlt : 0 < y.cells.size := by omega
                  have h6 : y.cells[0]? = some y.cells[0] := Array.getElem?_eq_getElem hlt
                  rw [h6] at h5
                  exact ⟨_, by simpa using h5, c2 0 u _ hu h6, c3 0 _ h6⟩
                · rename_i hk
                  obtain ⟨z, z1, z2, z3⟩ := d4 (k - 1) u hu
                  exact ⟨z, by rw [← z1]; congr 1; omega, z2, z3⟩
        · cases h
      · cases h
    · cases h
end
end Go.Ab
