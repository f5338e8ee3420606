/- The abstract operations are right, eleventh part: 'make', values that are written out. -/
import Derived.Test.YtacjfkmonjbcmaaAbP3
import Derived.WideKeyRuns
import Derived.MapKept
import Derived.RangeFuncRecord
set_option linter.unusedVariables false
namespace Go.Ab
open Go.RowKit (Below)

section
variable {R : Type} {E : Env}

theorem cells_one {x : Value} (h : x.oneCell' = true) : x.cells = #[x] := by
  cases x <;> first | rfl | (simp [Value.oneCell'] at h)
theorem RepPV.elem {P : Program} {μ : Ro} {n : Nat} {p : PV} {x : Value} (h : RepPV P μ p x) (hl : p.cells.length = n) (hp : p.plain = true) : ElemOk P μ n p x := by
  cases hq : p.isAgg with
  | true =>
    cases p <;> simp [PV.isAgg] at hq
    cases h with
    | agg h1 h2 h3 => exact ⟨hl, by simp only [PV.cells] at hl; simp only [Value.cells]; omega, h2, h3⟩
  | false =>
    have hc : p.cells = [p] := by cases p <;> first | rfl | (simp [PV.isAgg] at hq)
    have h1 : x.oneCell' = true := h.one (fun cs e => by subst e; simp [PV.isAgg] at hq) (fun cs e => by subst e; simp [PV.plain] at hp) (fun e => by subst e; simp [PV.plain] at hp)
    have hx := cells_one h1
    refine ⟨hl, by rw [hx]; rw [hc] at hl; simpa using hl, fun j q y hj hy => ?_, fun j y hy => ?_⟩
    · rw [hc] at hj; rw [hx] at hy
      cases j with
      | zero => simp at hj hy; subst hj; subst hy; exact h
      | succ j => simp at hj
    · rw [hx] at hy
      cases j with
      | zero => simp at hy; subst hy; exact h1
      | succ j => simp at hy
theorem zeroPV_ok {t : TypeId} {z : PV} (h : zeroPV E t = some z) : ∃ i zv, E.P.info? t = some i ∧ i.zero = some zv ∧ i.size = csz E.P t ∧ (∀ μ, RepPV E.P μ z zv) ∧ ∀ μ, ElemOk E.P μ (csz E.P t) z zv := by
  unfold zeroPV zeroV at h
  cases hi : E.P.info? t with
  | none => simp [hi] at h
  | some i =>
    cases hz : i.zero with
    | none => simp [hi, hz] at h
    | some zv =>
      simp only [hi, hz, Option.bind_some, Option.map_some] at h
      split at h
      · rename_i p hp
        split at h
        · rename_i hc
          simp only [Option.some.injEq] at h; subst h
          have hr : ∀ μ, RepPV E.P μ p zv := fun μ => frz_pure 2 hp (ofVal_rep (φ := fun _ => default) zv)
          exact ⟨i, zv, rfl, hz, by simp [csz, hi], hr, fun μ => (hr μ).elem hc.2.1 hc.2.2⟩
        · cases h
      · cases h
theorem zeroPV_run {t : TypeId} {z : PV} (h : zeroPV E t = some z) : ∃ zv, (∀ w, (zeroValue t).run E.P w = .ok zv w) ∧ ∀ μ, RepPV E.P μ z zv := by
  obtain ⟨i, zv, h1, h2, h3, h4, _⟩ := zeroPV_ok h
  exact ⟨zv, fun w => run_zeroValue h1 h2, h4⟩
theorem Cells.made {P : Program} {μ : Ro} {sz : Nat} {z : PV} {zv : Value} (hE : ElemOk P μ sz z zv) (hpos : 0 < sz) (n cap : Nat) (hn : n ≤ cap) :
    Cells P μ sz (List.replicate n z) ((madeCells zv.cells (cap * sz)).toList.take ((List.replicate n z).length * sz)) := by
  have hle : n * sz ≤ cap * sz := Nat.mul_le_mul_right _ hn
  have hget : ∀ k y, ((madeCells zv.cells (cap * sz)).toList.take ((List.replicate n z).length * sz))[k]? = some y → zv.cells[k % sz]? = some y := by
    intro k y hk
    obtain ⟨h1, h2⟩ := take_get hk
    simp only [List.length_replicate] at h1
    have hlt : k % sz < zv.cells.size := by rw [hE.size]; exact Nat.mod_lt _ hpos
    rw [Array.getElem?_toList, madeCells, Array.getElem?_map, Array.getElem?_range] at h2
    rw [if_pos (by omega)] at h2
    simp only [Option.map_some, Option.some.injEq, hE.size] at h2
    rw [getElem!_pos zv.cells (k % sz) hlt] at h2
    rw [Array.getElem?_eq_getElem hlt, h2]
  refine ⟨by rw [List.length_take, List.length_replicate, Array.length_toList, size_madeCells]; omega, fun i e hi => ?_, fun i e j p y hi hj hy => ?_, fun k y hk => hE.one _ y (hget k y hk)⟩
  · rw [List.getElem?_replicate] at hi
    split at hi
    · simp only [Option.some.injEq] at hi; subst hi; exact hE.len
    · cases hi
  · rw [List.getElem?_replicate] at hi
    split at hi
    · simp only [Option.some.injEq] at hi; subst hi
      have hjl : j < sz := by rw [← hE.len]; exact (List.getElem?_eq_some_iff.1 hj).1
      have := hget _ y hy
      rw [Nat.mul_comm, Nat.mul_add_mod, Nat.mod_eq_of_lt hjl] at this
      exact hE.rep j p y hj this
    · cases hi

theorem xmakeSlice_ok {draw : Bool} {site : Nat} {t : TypeId} {len cap : V} {f : Fr} {m : Mem} {k : V → Fr → Mem → Foot → Option R} {r : R} (h : xmakeSlice E draw site t len cap f m k = some r) :
    ∃ f' m' b, (draw = true → m site = none ∧ f' = f ∧ m' = memSet m site b ∧ ∀ (f2 : Fr) (m2 : Mem), m2 site = none → ∀ (R' : Type) (k' : V → Fr → Mem → Foot → Option R'), xmakeSlice E true site t len cap f2 m2 k' = k' (.os site) f2 (memSet m2 site b) [(true, site)]) ∧
    k (.os site) f' m' [(true, site)] = some r ∧ (m' site).isSome = true ∧
    ∀ (G : Nat → Option (List PV)) (w0 : Base) (μ : Ro) (φ : Nat → Phys) (w : World) (ρ : Nat → Value) (yl yc : Value), RelM E.P G w0 μ φ m w → FrOk E.P μ φ m f ρ → RepV E.P μ φ len yl → RepV E.P μ φ cap yc →
      ∃ w' y φ', (Instr.makeSlice t yl yc).run E.P w = .ok y w' ∧ RelM E.P G w0 μ φ' m' w' ∧ FrOk E.P μ φ' m' f' ρ ∧ RepV E.P μ φ' (.os site) y := by
  unfold xmakeSlice at h
  split at h
  · rename_i e ql n qc c hu
    split at h
    · rename_i z hz
      split at h
      · rename_i hb
        obtain ⟨f', m', _, hk, hms, hdr, hfr⟩ := fresh_ok h
        refine ⟨f', m', .arr (csz E.P e) e (List.replicate n.toNat z), fun hd => ?_, hk, by simp [hms], fun G w0 μ φ w ρ yl yc hM hF hl hc => ?_⟩
        · obtain ⟨d1, d2, d3⟩ := hdr hd
          refine ⟨d1, d2, d3, fun f2 m2 hm2 R' k' => ?_⟩
          simp only [xmakeSlice, hu, hz]; rw [if_pos hb]; simp [fresh, hm2]
        · obtain ⟨i, zv, h1, h2, h3, _, h4⟩ := zeroPV_ok hz
          obtain ⟨hib, _⟩ := bytes_und h1
          have hc1 : c.toNat ≤ 140737488355328 := by
            have : c.toNat * 1 ≤ c.toNat * bsz E.P e := Nat.mul_le_mul_left _ hb.2.2.2.1
            have := hb.2.2.1; simp only [roomBound] at this; omega
          cases hl with
          | pv hl => cases hl with
            | int wl =>
              cases hc with
              | pv hc => cases hc with
                | int wc =>
                  have hbytes : (i.bytes : Int) * c ≤ 281474976710656 := by
                    have h5 := hb.2.2.1
                    simp only [roomBound] at h5
                    have h6 : ((c.toNat * bsz E.P e : Nat) : Int) ≤ 140737488355328 := by omega
                    rw [Int.natCast_mul, Int.toNat_of_nonneg (by omega)] at h6
                    rw [hib, Int.mul_comm]; omega
                  have hr := run_make (P := E.P) w t e i zv hu h1 h2 ql qc n c hb.1 hb.2.1 hbytes (by omega)
                  rw [h3] at hr
                  obtain ⟨φ', a1, a2, a3⟩ := hfr E.P G w0 μ φ w _ ρ (phy (some w.heap.size) c.toNat (List.replicate n.toNat z).length (csz E.P e)) hM hF (PutOk.alloc (o := .cells (madeCells zv.cells (c.toNat * csz E.P e)) e) hM rfl
                    (fun φ' hp _ => RepArr.of_cells (g := w.heap.size) (by rw [hp]) rfl hb.2.2.2.2 (by rw [hp]; simp only [maxLen]; omega) (alloc_new w _) (by rw [hp]; simp [size_madeCells]) (by rw [hp]; simp; omega) (Cells.made (h4 μ) hb.2.2.2.2 _ _ (by omega))) (by simp [Blk.names]))
                  refine ⟨_, _, φ', hr, a2, a3, ?_⟩
                  have := RepV.os (P := E.P) (μ := μ) (φ := φ') (id := site) (g := w.heap.size) (by rw [a1])
                  rw [a1] at this; simpa using this
      · cases h
    · cases h
  · cases h
theorem fill_splice (off : Nat) : ∀ (l : List Value) (k : Nat) (c : Array Value), off + k + l.length ≤ c.size →
    (l.zipIdx k).foldl (fun cs (x : Value × Nat) => cs.setIfInBounds (off + x.2) x.1) c = (splice c.toList (off + k) l).toArray
  | [], k, c, _ => by simp [splice_eq]
  | v :: r, k, c, h => by
    simp only [List.zipIdx_cons, List.foldl_cons]
    rw [fill_splice off r (k + 1) _ (by simp at h ⊢; omega)]
    congr 1
    have e := list_seg_step c.toList (off + k) v r (by simp at h ⊢; omega)
    simp only [splice_eq, Array.toList_setIfInBounds, ← Nat.add_assoc]
    rw [e]
    simp
theorem fill_step {place : Nat → Option (Nat × Nat)} {c : Array Value} {i off size : Nat} {v : Value} {rest : List (Nat × Value)} (hp : place i = some (off, size)) (hv : v.cells.size = size) (hb : off + size ≤ c.size) :
    Instr.fill place c ((i, v) :: rest) = Instr.fill place (splice c.toList off v.cells.toList).toArray rest := by
  have h1 : v.cells.zipIdx.foldl (fun cs (x : Value × Nat) => cs.setIfInBounds (off + x.2) x.1) c = (splice c.toList off v.cells.toList).toArray := by
    rw [← Array.foldl_toList, Array.toList_zipIdx]
    exact fill_splice off v.cells.toList 0 c (by simp; omega)
  simp only [Instr.fill, hp]
  rw [if_neg (by simp [hv]; omega)]
  rw [← h1]

theorem fillV_ok {place : Nat → Option (Nat × Nat)} : ∀ {parts : List (Nat × V)} {cs cs' : List V}, fillV place cs parts = some cs' → (∀ id, hasL id cs' = true → hasL id cs = true ∨ hasL id (parts.map (·.2)) = true) ∧ cs'.length = cs.length ∧
    ∀ (P : Program) (μ : Ro) (φ : Nat → Phys) (c : Array Value) (parts' : List (Nat × Value)), parts'.length = parts.length → (∀ (j i : Nat) v, parts[j]? = some (i, v) → ∃ y, parts'[j]? = some (i, y) ∧ RepV P μ φ v y) →
      c.size = cs.length → (∀ (i : Nat) u y, cs[i]? = some u → c[i]? = some y → RepV P μ φ u y) → (∀ (i : Nat) (y : Value), c[i]? = some y → y.oneCell' = true) →
      ∃ c', Instr.fill place c parts' = some c' ∧ c'.size = cs'.length ∧ (∀ (i : Nat) u y, cs'[i]? = some u → c'[i]? = some y → RepV P μ φ u y) ∧ (∀ (i : Nat) (y : Value), c'[i]? = some y → y.oneCell' = true)
  | [], cs, cs', h => by
    simp only [fillV, Option.some.injEq] at h; subst h
    refine ⟨fun id hid => .inl hid, rfl, fun P μ φ c parts' hl _ hs hr h1 => ?_⟩
    have : parts' = [] := List.eq_nil_of_length_eq_zero (by simpa using hl)
    subst this
    exact ⟨c, rfl, hs, hr, h1⟩
  | (i, v) :: rest, cs, cs', h => by
    simp only [fillV] at h
    split at h
    · rename_i off size hp
      split at h
      · rename_i new hn
        split at h
        · rename_i hb
          obtain ⟨n1, n2, n3⟩ := toCells_ok hn
          obtain ⟨f1, f2, f3⟩ := fillV_ok h
          have hlen : (splice cs off new).length = cs.length := splice_length (by omega)
          refine ⟨fun id hid => ?_, by rw [f2, hlen], fun P μ φ c parts' hl hpv hs hr h1 => ?_⟩
          · rcases f1 id hid with h | h
            · obtain ⟨u, hu, hh⟩ := hasL_iff.1 h
              simp only [splice_eq, List.mem_append] at hu
              rcases hu with (hu | hu) | hu
              · exact .inl (hasL_mem (List.mem_of_mem_take hu) hh)
              · exact .inr (by simp only [List.map_cons, hasL, Bool.or_eq_true]; exact .inl (n2 id (hasL_mem hu hh)))
              · exact .inl (hasL_mem (List.mem_of_mem_drop hu) hh)
            · exact .inr (by simp only [List.map_cons, hasL, Bool.or_eq_true]; exact .inr h)
          · obtain ⟨y, hy, hvy⟩ := hpv 0 i v (by simp)
            cases parts' with
            | nil => simp at hl
            | cons a rest' =>
              simp at hy; subst hy
              obtain ⟨x1, x2, x3⟩ := n3 P μ φ y hvy
              rw [fill_step hp x1 (by omega)]
              have hfit : off + y.cells.toList.length ≤ c.toList.length := by simp; omega
              have e1 : y.cells.toList.length = new.length := by simp; omega
              refine f3 P μ φ _ rest' (by simpa using hl) (fun j i' v' hj => ?_) ?_ (fun j u z hu hz => ?_) (fun j z hz => ?_)
              · have := hpv (j + 1) i' v' (by simpa using hj)
                simpa using this
              · simp only [List.size_toArray]
                rw [splice_length hfit, hlen]; simp [hs]
              · rw [List.getElem?_toArray] at hz
                rcases splice_get hfit hz with ⟨b1, b2, b3⟩ | ⟨b1, b2⟩ <;> rcases splice_get (by omega) hu with ⟨d1, d2, d3⟩ | ⟨d1, d2⟩
                · exact x2 _ u z d3 (by simpa using b3)
                · exfalso; omega
                · exfalso; omega
                · exact hr j u z d2 (by simpa using b2)
              · rw [List.getElem?_toArray] at hz
                rcases splice_get hfit hz with ⟨b1, b2, b3⟩ | ⟨b1, b2⟩
                · exact x3 _ z (by simpa using b3)
                · exact h1 j z (by simpa using b2)
        · cases h
      · cases h
    · cases h

theorem places_all : ∀ {fs : List Field}, fs.all (fun f => (E.P.info? f.type).isSome) = true → fs.mapM (fun f => (E.P.info? f.type).map fun i => (f.offset, i.size)) = some (fs.map fun f => (f.offset, csz E.P f.type))
  | [], _ => rfl
  | f :: r, h => by
    simp only [List.all_cons, Bool.and_eq_true] at h
    obtain ⟨i, hi⟩ := Option.isSome_iff_exists.1 h.1
    simp only [List.mapM_cons, hi, Option.map_some, places_all h.2, List.map_cons]
    simp [csz, hi]

theorem xbuild_ok {t : TypeId} {parts : List (Nat × V)} {k : V → Option R} {r : R} (h : xbuild E t parts k = some r) :
    ∃ v, (∀ (R' : Type) (k' : V → Option R'), xbuild E t parts k' = k' v) ∧ k v = some r ∧ (∀ id, v.has id = true → hasL id (parts.map (·.2)) = true) ∧
    ∀ (μ : Ro) (φ : Nat → Phys) (w : World) (parts' : Array (Nat × Value)), parts'.size = parts.length → (∀ (j i : Nat) v, parts[j]? = some (i, v) → ∃ y, parts'[j]? = some (i, y) ∧ RepV E.P μ φ v y) →
      ∃ z, (Instr.build t parts').run E.P w = .ok z w ∧ RepV E.P μ φ v z := by
  unfold xbuild at h
  split at h
  · rename_i z fs hz hu
    split at h
    · rename_i hall
      split at h
      · rename_i cs hf
        obtain ⟨i, zv, h1, h2, h3, h4, h5, h6, h7, h8⟩ := zeroCellsV_ok hz
        obtain ⟨f1, f2, f3⟩ := fillV_ok hf
        refine ⟨_, fun R' k' => by simp only [xbuild, hz, hu, hf]; rw [if_pos hall], h, fun id hid => ?_, fun μ φ w parts' hl hp => ?_⟩
        · simp only [V.has] at hid
          exact (f1 id hid).resolve_left (by rw [h6]; simp)
        · obtain ⟨c', c1, c2, c3, c4⟩ := f3 E.P μ φ zv.cells parts'.toList (by simpa using hl) (fun j i v hj => by simpa using hp j i v hj) (by omega) (h7 μ φ) h8
          refine ⟨_, run_build w t parts' c' ?_, .agg c2.symm c3 c4⟩
          simp only [Program.built, h1, hu, h2, places_all hall]
          rw [← c1]; congr 1
          funext j
          simp [placesOf]
      · cases h
    · cases h
  · rename_i z n e hz hu
    split at h
    · rename_i hpos
      split at h
      · rename_i cs hf
        obtain ⟨i, zv, h1, h2, h3, h4, h5, h6, h7, h8⟩ := zeroCellsV_ok hz
        obtain ⟨f1, f2, f3⟩ := fillV_ok hf
        refine ⟨_, fun R' k' => by simp only [xbuild, hz, hu, hf]; rw [if_pos hpos], h, fun id hid => ?_, fun μ φ w parts' hl hp => ?_⟩
        · simp only [V.has] at hid
          exact (f1 id hid).resolve_left (by rw [h6]; simp)
        · obtain ⟨c', c1, c2, c3, c4⟩ := f3 E.P μ φ zv.cells parts'.toList (by simpa using hl) (fun j i v hj => by simpa using hp j i v hj) (by omega) (h7 μ φ) h8
          obtain ⟨ie, hie, hse⟩ := csz_und (P := E.P) (t := e) (by omega)
          refine ⟨_, run_build w t parts' c' ?_, .agg c2.symm c3 c4⟩
          simp only [Program.built, h1, hu, h2, hie, hse]
          exact c1
      · cases h
    · cases h
  · cases h
theorem partsElems_ok {n : Nat} {agg : Bool} : ∀ {parts : List (Nat × V)} {m m' : Mem} {i : Nat} {ps : List PV}, partsElems m n agg i parts = some (ps, m') → Lives m m' ∧ ps.length = parts.length ∧
    ∀ (P : Program) (G : Nat → Option (List PV)) (w0 : Base) (μ : Ro) (φ : Nat → Phys) (w : World) (parts' : List (Nat × Value)) (es : List PV) (c : Array Value), RelM P G w0 μ φ m w → parts'.length = parts.length →
      (∀ (j i : Nat) v, parts[j]? = some (i, v) → ∃ y, parts'[j]? = some (i, y) ∧ RepV P μ φ v y) → es.length = i → c.size = (i + parts.length) * n → Cells P μ n es (c.toList.take (es.length * n)) →
      ∃ μ' c', (∀ b o, μ b = some o → μ' b = some o) ∧ RelM P G w0 μ' φ m' w ∧ Instr.fill (fun i => some (i * n, n)) c parts' = some c' ∧ c'.size = (i + parts.length) * n ∧ Cells P μ' n (es ++ ps) c'.toList
  | [], m, m', i, ps, h => by
    simp only [partsElems, Option.some.injEq, Prod.mk.injEq] at h; obtain ⟨rfl, rfl⟩ := h
    refine ⟨.refl _, rfl, fun P G w0 μ φ w parts' es c hM hl _ he hc hC => ⟨μ, c, fun _ _ h => h, hM, ?_, hc, ?_⟩⟩
    · have : parts' = [] := List.eq_nil_of_length_eq_zero (by simpa using hl)
      subst this; rfl
    · rw [List.append_nil]
      rw [List.take_of_length_le (by simp at hc ⊢; rw [hc, he]; exact Nat.le_refl _)] at hC
      exact hC
  | (j, v) :: r, m, m', i, ps, h => by
    simp only [partsElems] at h
    split at h
    · rename_i hij
      subst hij
      split at h
      · rename_i p m1 hf
        split at h
        · rename_i ps1 m2 hr
          simp only [Option.some.injEq, Prod.mk.injEq] at h; obtain ⟨rfl, rfl⟩ := h
          obtain ⟨a1, a2⟩ := frzElem_ok hf
          obtain ⟨b1, b2, b3⟩ := partsElems_ok hr
          refine ⟨a1.trans b1, by simp [b2], fun P G w0 μ φ w parts' es c hM hl hp he hc hC => ?_⟩
          obtain ⟨y, hy, hvy⟩ := hp 0 i v (by simp)
          cases parts' with
          | nil => simp at hl
          | cons a rest' =>
            simp at hy; subst hy
            obtain ⟨μ1, c1, c2, c3⟩ := a2 P G w0 μ φ w y hM hvy
            have hfit : i * n + n ≤ c.size := by
              rw [hc]
              have : (i + 1) * n ≤ (i + (r.length + 1)) * n := Nat.mul_le_mul_right _ (by omega)
              rw [Nat.add_mul] at this; simp at this ⊢; omega
            have hyl : y.cells.toList.length = n := by simpa using c3.size
            have hfit' : i * n + y.cells.toList.length ≤ c.toList.length := by rw [hyl]; simpa using hfit
            obtain ⟨μ2, c', d1, d2, d3, d4, d5⟩ := b3 P G w0 μ1 φ w rest' (es ++ [p]) (splice c.toList (i * n) y.cells.toList).toArray c2 (by simpa using hl) (fun j i' v' hj => by
                obtain ⟨z, hz1, hz2⟩ := hp (j + 1) i' v' (by simpa using hj)
                exact ⟨z, by simpa using hz1, hz2.monoR c1⟩) (by simp [he]) (by
                simp only [List.size_toArray]; rw [splice_length hfit']; simp only [Array.length_toList, hc, List.length_cons]; congr 1; omega) (by
                have e1 : ((splice c.toList (i * n) y.cells.toList).toArray.toList.take ((es ++ [p]).length * n)) = c.toList.take (es.length * n) ++ y.cells.toList := by
                  simp only [splice_eq, List.length_append, List.length_singleton, he]
                  exact List.take_left' (by rw [List.length_append, hyl, List.length_take, Nat.min_eq_left (by simp; omega), Nat.add_mul, Nat.one_mul])
                rw [e1]
                refine (hC.mono c1).append ⟨by simp [hyl], fun k e hk => ?_, fun k e l q z hk hl hz => ?_, fun k z hz => c3.one k z (by simpa using hz)⟩
                · cases k with
                  | zero => simp at hk; subst hk; exact c3.len
                  | succ k => simp at hk
                · cases k with
                  | zero => simp at hk; subst hk; exact c3.rep l q z hl (by simpa using hz)
                  | succ k => simp at hk)
            refine ⟨μ2, c', fun b o h => d1 b o (c1 b o h), d2, ?_, by rw [d4]; simp only [List.length_cons]; congr 1; omega, by simpa using d5⟩
            rw [fill_step rfl c3.size hfit]; exact d3
        · cases h
      · cases h
    · cases h

theorem partsV_ok : ∀ {parts : List (Nat × V)} {i : Nat} {cs : List V}, partsV i parts = some cs → cs.length = parts.length ∧ (∀ id, hasL id cs = true → hasL id (parts.map Prod.snd) = true) ∧
    ∀ (P : Program) (μ : Ro) (φ : Nat → Phys) (parts' : List (Nat × Value)) (c : Array Value), parts'.length = parts.length →
      (∀ (j i : Nat) v, parts[j]? = some (i, v) → ∃ y, parts'[j]? = some (i, y) ∧ RepV P μ φ v y) → c.size = i + parts.length →
      ∃ c', Instr.fill (fun i => some (i * 1, 1)) c parts' = some c' ∧ c'.size = c.size ∧ (∀ j, j < i → c'[j]? = c[j]?) ∧ ∀ j u, cs[j]? = some u → ∃ y, c'[i + j]? = some y ∧ RepV P μ φ u y ∧ y.oneCell' = true
  | [], i, cs, h => by
    simp only [partsV, Option.some.injEq] at h; subst h
    refine ⟨rfl, by simp [hasL], fun P μ φ parts' c hl _ hc => ⟨c, ?_, rfl, fun _ _ => rfl, by simp⟩⟩
    have : parts' = [] := List.eq_nil_of_length_eq_zero (by simpa using hl)
    subst this; rfl
  | (j, v) :: r, i, cs, h => by
    simp only [partsV] at h
    split at h
    · rename_i hij
      subst hij
      split at h
      · rename_i us0 hf
        split at h
        · rename_i us hr
          simp only [Option.some.injEq] at h; subst h
          obtain ⟨a1, a2, a3⟩ := toCells_ok hf
          obtain ⟨b1, b2, b3⟩ := partsV_ok hr
          refine ⟨by simp [a1, b1]; omega, fun id hid => ?_, fun P μ φ parts' c hl hp hc => ?_⟩
          · obtain ⟨u, hu, hh⟩ := hasL_iff.1 hid
            rcases List.mem_append.1 hu with hu | hu
            · simp only [List.map_cons, hasL, Bool.or_eq_true]; exact .inl (a2 id (hasL_mem hu hh))
            · simp only [List.map_cons, hasL, Bool.or_eq_true]; exact .inr (b2 id (hasL_mem hu hh))
          · obtain ⟨y, hy, hvy⟩ := hp 0 i v (by simp)
            cases parts' with
            | nil => simp at hl
            | cons a rest' =>
              simp at hy; subst hy
              obtain ⟨c1, c2, c3⟩ := a3 P μ φ y hvy
              have hfit : i * 1 + 1 ≤ c.size := by simp at hc; omega
              have hyl : y.cells.toList.length = 1 := by simpa using c1
              have hfit' : i * 1 + y.cells.toList.length ≤ c.toList.length := by rw [hyl]; simpa using hfit
              obtain ⟨c', d1, d2, d3, d4⟩ := b3 P μ φ rest' (splice c.toList (i * 1) y.cells.toList).toArray (by simpa using hl) (fun j i' v' hj => by
                  obtain ⟨z, hz1, hz2⟩ := hp (j + 1) i' v' (by simpa using hj)
                  exact ⟨z, by simpa using hz1, hz2⟩) (by
                  simp only [List.size_toArray]; rw [splice_length hfit']; simp only [Array.length_toList, hc, List.length_cons]; omega)
              have hsp : ∀ k, (splice c.toList (i * 1) y.cells.toList).toArray[k]? = if k = i then y.cells[0]? else c[k]? := fun k => by
                rw [List.getElem?_toArray]
                rw [splice_eq]
                rw [List.append_assoc, List.getElem?_append, List.length_take, Nat.min_eq_left (by simp; omega), List.getElem?_append, hyl]
                by_cases h1 : k < i * 1
                · rw [if_pos h1, if_neg (by omega), List.getElem?_take_of_lt h1, Array.getElem?_toList]
                · rw [if_neg h1]
                  by_cases h2 : k = i
                  · subst h2; rw [if_pos (by omega), if_pos rfl]; simp
                  · rw [if_neg (by omega), if_neg h2, List.getElem?_drop, Array.getElem?_toList]; congr 1; omega
              refine ⟨c', ?_, by rw [d2]; simp only [List.size_toArray]; rw [splice_length hfit']; simp, fun k hk => ?_, fun k u hu => ?_⟩
              · rw [fill_step rfl c1 hfit]; exact d1
              · rw [d3 k (by omega), hsp, if_neg (by omega)]
              · have h0 : us0.length = 1 := a1
                rw [List.getElem?_append, h0] at hu
                split at hu
                · rename_i hk
                  have hk0 : k = 0 := by omega
                  subst hk0
                  have h5 := d3 i (by omega)
                  rw [hsp, if_pos rfl] at h5
                  have hlt : 0 < y.cells.size := by omega
                  have h6 : y.cells[0]? = some y.cells[0] := Array.getElem?_eq_getElem hlt
                  rw [h6] at h5
                  exact ⟨_, by simpa using h5, c2 0 u _ hu h6, c3 0 _ h6⟩
                · rename_i hk
                  obtain ⟨z, z1, z2, z3⟩ := d4 (k - 1) u hu
                  exact ⟨z, by rw [← z1]; congr 1; omega, z2, z3⟩
        · cases h
      · cases h
    · cases h
end
end Go.Ab

set_option linter.unusedVariables false
namespace Go.Ab
open Go.RowKit (Below)

section
variable {P : Program}

theorem run_checkKey_kds : ∀ (d : Nat) (t : TypeId) (ks : List Kd), kds P d t = some ks → ∀ (D : Nat) (w : World) (em : Bool) (ps : List PV), chk ks ps = true →
    (Instr.checkKey em (D + d) t (mkVal P t ps)).run P w = .ok () w
  | 0, t, ks, h, _, _, _, _, _ => by simp [kds] at h
  | d + 1, t, ks, h, D, w, em, ps, hp => by
    have ih := run_checkKey_kds d
    unfold kds at h
    split at h
    · rename_i q hu
      simp only [Option.some.injEq] at h; subst h
      have ha : isAggT P t = false := by simp [isAggT, hu]
      obtain ⟨p, rfl, hkp⟩ := chk_one hp
      clear hp
      cases p <;> simp [kdIs] at hkp
      simp [mkVal, ha, valOf, ← Nat.add_assoc, Instr.checkKey, run_underlying hu]
    · rename_i hu
      simp only [Option.some.injEq] at h; subst h
      have ha : isAggT P t = false := by simp [isAggT, hu]
      obtain ⟨p, rfl, hkp⟩ := chk_one hp
      clear hp
      cases p <;> simp [kdIs] at hkp
      simp [mkVal, ha, valOf, ← Nat.add_assoc, Instr.checkKey, run_underlying hu]
    · rename_i hu
      simp only [Option.some.injEq] at h; subst h
      have ha : isAggT P t = false := by simp [isAggT, hu]
      obtain ⟨p, rfl, hkp⟩ := chk_one hp
      clear hp
      cases p <;> simp [kdIs] at hkp
      simp [mkVal, ha, valOf, ← Nat.add_assoc, Instr.checkKey, run_underlying hu]
    · rename_i fs hu
      split at h
      · cases h
      · obtain ⟨a, ha, h⟩ := Option.bind_eq_some_iff.1 h
        split at h
        · rename_i hlen
          simp only [Option.some.injEq] at h; subst h
          have hag : isAggT P t = true := by simp [isAggT, hu]
          simp only [mkVal, hag, if_true, ← Nat.add_assoc]
          rw [Instr.checkKey]
          simp only [Sem.run_bind, run_underlying hu, Result.andThen_ok]
          rw [← Array.forIn_toList]
          have key : ∀ (L : List Field) (off : Nat) (b : List Kd), kdsField (kds P d) L off = some b → off ≤ ps.length → chk b (ps.drop off) = true →
              (forIn L PUnit.unit fun f (_ : PUnit) => (do
                if f.name ≠ "_" then Instr.checkKey em (D + d) f.type (← part f.type (ps.map valOf).toArray f.offset)
                pure (ForInStep.yield PUnit.unit) : Sem (ForInStep PUnit))).run P w = .ok PUnit.unit w := by
            intro L
            induction L with
            | nil => intro off b _ _ _; simp
            | cons f L ihL =>
              intro off b hb o1 h1
              simp only [kdsField] at hb
              split at hb
              · rename_i hf
                obtain ⟨c, hc, hb⟩ := Option.bind_eq_some_iff.1 hb
                obtain ⟨b', hb', hb⟩ := Option.bind_eq_some_iff.1 hb
                simp only [Option.some.injEq] at hb; subst hb
                rw [chk_append] at h1
                have l1 := chk_len h1.1
                simp only [List.length_take, List.length_drop] at l1
                have p1 := run_part_val (w := w) (ps := ps) (off := off) hc (by omega)
                have p3 := ih f.type c hc D w em _ h1.1
                have p4 := ihL (off + c.length) b' hb' (by omega) (by rw [← List.drop_drop]; exact h1.2)
                simp only [List.forIn_cons, hf.2, ne_eq, not_false_eq_true, if_true, Sem.run_bind, hf.1, p1, p3, Result.andThen_ok, Sem.run_pure]
                exact p4
              · cases hb
          have := key fs.toList 0 a ha (by simp) (by simpa using hp)
          simp at this
          simp [this]
        · cases h
    · rename_i n e hu
      obtain ⟨a, ha, h⟩ := Option.bind_eq_some_iff.1 h
      split at h
      · rename_i hlen
        simp only [Option.some.injEq] at h; subst h
        have hag : isAggT P t = true := by simp [isAggT, hu]
        obtain ⟨_, _, de, hde⟩ := kds_agg ha
        have hsz : (sizeOf e).run P w = .ok a.length w := by rw [hlen.1]; exact run_sizeOf' hde
        simp only [mkVal, hag, if_true, ← Nat.add_assoc]
        rw [Instr.checkKey]
        simp only [Sem.run_bind, run_underlying hu, Result.andThen_ok]
        simp only [Std.Legacy.Range.forIn_eq_forIn_range', Std.Legacy.Range.size, Nat.sub_zero, Nat.add_one_sub_one, Nat.div_one]
        have key : ∀ (k j : Nat), j * a.length ≤ ps.length → chk (kdsRep a k) (ps.drop (j * a.length)) = true →
            (forIn (List.range' j k) PUnit.unit fun i (_ : PUnit) => (do
              Instr.checkKey em (D + d) e (← part e (ps.map valOf).toArray (i * (← sizeOf e)))
              pure (ForInStep.yield PUnit.unit) : Sem (ForInStep PUnit))).run P w = .ok PUnit.unit w := by
          intro k
          induction k with
          | zero => intro j _ _; simp
          | succ k ihk =>
            intro j o1 h1
            simp only [kdsRep] at h1
            rw [chk_append] at h1
            have l1 := chk_len h1.1
            simp only [List.length_take, List.length_drop] at l1
            have p1 := run_part_val (w := w) (ps := ps) (off := j * a.length) ha (by omega)
            have p3 := ih e a ha D w em _ h1.1
            have ej : (j + 1) * a.length = j * a.length + a.length := by rw [Nat.add_mul]; omega
            have p4 := ihk (j + 1) (by omega) (by rw [ej, ← List.drop_drop]; exact h1.2)
            rw [List.range'_succ]
            simp only [List.forIn_cons, Sem.run_bind, hsz, p1, p3, Result.andThen_ok, Sem.run_pure]
            exact p4
        have := key n 0 (by simp) (by simpa using hp)
        simp at this
        simp [this]
      · cases h
    · cases h

theorem keyOk_val {μ : Ro} {kt : TypeId} {ks : List Kd} {k : PV} {y : Value} (h : keyOk P kt ks k = true) (hy : RepPV P μ k y) : chk ks k.cells = true ∧ y = mkVal P kt k.cells := by
  simp only [keyOk, Bool.and_eq_true, beq_iff_eq] at h
  refine ⟨h.1, ?_⟩
  cases hq : k.isAgg with
  | true =>
    cases k <;> simp [PV.isAgg] at hq
    cases hy with
    | agg h1 h2 h3 =>
      have := vals_of_cells h.1 h1.symm h2
      rw [this]
      simp [mkVal, h.2, PV.isAgg, PV.cells]
  | false =>
    have hc : k.cells = [k] := by cases k <;> first | rfl | (simp [PV.isAgg] at hq)
    have h1 := h.1
    rw [hc] at h1
    cases ks with
    | nil => simp [chk] at h1
    | cons kd r =>
      simp only [chk, Bool.and_eq_true] at h1
      have := valOf_rep h1.1 hy
      simp [mkVal, h.2, hq, hc, this]
theorem peqL_eq : ∀ {ks : List Kd} {ps qs : List PV}, chk ks ps = true → chk ks qs = true → peqL ps qs = true → ps = qs
  | [], [], [], _, _, _ => rfl
  | k :: ks, p :: ps, q :: qs, h1, h2, h3 => by
    simp only [chk, Bool.and_eq_true] at h1 h2
    simp only [peqL, Bool.and_eq_true] at h3
    rw [peqL_eq h1.2 h2.2 h3.2]
    have : p = q := by
      cases k <;> cases p <;> simp [kdIs] at h1 <;> cases q <;> simp [kdIs] at h2 <;> simp [peq] at h3 <;> simp_all
    rw [this]
  | [], p :: ps, _, h, _, _ => by simp [chk] at h
  | k :: ks, [], _, h, _, _ => by simp [chk] at h
  | [], [], q :: qs, _, h, _ => by simp [chk] at h
  | k :: ks, p :: ps, [], _, h, _ => by simp [chk] at h
structure EntOk (P : Program) (μ : Ro) (kt : TypeId) (ks : List Kd) (l : List (PV × PV)) (es : List MapEntry) : Prop where
  len : es.length = l.length
  key : ∀ (i : Nat) k v, l[i]? = some (k, v) → keyOk P kt ks k = true
  rep : ∀ (i : Nat) k v e, l[i]? = some (k, v) → es[i]? = some e → RepPV P μ k e.key ∧ RepPV P μ v e.val
theorem EntOk.tail {μ : Ro} {kt : TypeId} {ks : List Kd} {x : PV × PV} {l : List (PV × PV)} {e : MapEntry} {es : List MapEntry} (h : EntOk P μ kt ks (x :: l) (e :: es)) : EntOk P μ kt ks l es :=
  ⟨by simpa using h.len, fun i k v hi => h.key (i + 1) k v (by simpa using hi), fun i k v e hi he => h.rep (i + 1) k v e (by simpa using hi) (by simpa using he)⟩
inductive Found (k v : PV) (z : PV) (l : List (PV × PV)) (es : List MapEntry) (i : Nat) : Option (Nat × Value) → Prop
  | none : mhas k l = false → mlook k z l = z → mput k v l = l ++ [(k, v)] → Found k v z l es i none
  | some {j : Nat} {a u : PV} {e : MapEntry} : l[j]? = some (a, u) → es[j]? = some e → peqL k.cells a.cells = true → mhas k l = true → mlook k z l = u → mput k v l = l.set j (k, v) → Found k v z l es i (some (i + j, e.val))
theorem Found.cons {k v z : PV} {x : PV × PV} {l : List (PV × PV)} {e : MapEntry} {es : List MapEntry} {i : Nat} {r : Option (Nat × Value)} (hx : peqL k.cells x.1.cells = false) (h : Found k v z l es (i + 1) r) : Found k v z (x :: l) (e :: es) i r := by
  obtain ⟨a, u⟩ := x
  cases h with
  | none h1 h2 h3 => exact .none (by simpa [mhas, hx] using h1) (by simpa [mlook, hx] using h2) (by simpa [mput, hx] using h3)
  | @some j a' u' e' h1 h2 h3 h4 h5 h6 =>
    have := Found.some (k := k) (v := v) (z := z) (l := (a, u) :: l) (es := e :: es) (i := i) (j := j + 1) (a := a') (u := u') (e := e') (by simpa using h1) (by simpa using h2) h3 (by simpa [mhas, hx] using h4) (by simpa [mlook, hx] using h5) (by simpa [mput, hx] using h6)
    rw [show i + 1 + j = i + (j + 1) by omega]; exact this
theorem Found.here {k v z : PV} {a u : PV} {l : List (PV × PV)} {e : MapEntry} {es : List MapEntry} {i : Nat} (hx : peqL k.cells a.cells = true) : Found k v z ((a, u) :: l) (e :: es) i (Option.some (i, e.val)) := by
  have := Found.some (k := k) (v := v) (z := z) (l := (a, u) :: l) (es := e :: es) (i := i) (j := 0) (a := a) (u := u) (e := e) (by simp) (by simp) hx (by simp [mhas, hx]) (by simp [mlook, hx]) (by simp [mput, hx])
  simpa using this

theorem run_findAsking_kds {μ : Ro} {kt : TypeId} {ks : List Kd} {k v z : PV} (hk : kds P 8 kt = some ks) (hkk : chk ks k.cells = true) (w : World) :
    ∀ (l : List (PV × PV)) (es : List MapEntry) (i : Nat), EntOk P μ kt ks l es → ∃ r, (Instr.findAsking kt (mkVal P kt k.cells) es i).run P w = .ok r w ∧ Found k v z l es i r
  | [], es, i, h => by
    have : es = [] := List.eq_nil_of_length_eq_zero (by simpa using h.len)
    subst this
    exact ⟨none, by simp [Instr.findAsking], .none rfl rfl rfl⟩
  | (a, u) :: l, es, i, h => by
    cases es with
    | nil => have := h.len; simp at this
    | cons e es =>
      have hka := h.key 0 a u (by simp)
      obtain ⟨h1, h2⟩ := keyOk_val hka (h.rep 0 a u e (by simp) (by simp)).1
      have he : (Op.equal kt (mkVal P kt k.cells) e.key).run P w = .ok (peqL k.cells a.cells) w := by
        rw [h2]; exact run_equalIn_kds 8 kt ks hk 9992 w _ _ hkk h1
      cases hp : peqL k.cells a.cells with
      | true => exact ⟨some (i, e.val), by simp [Instr.findAsking, he, hp], .here hp⟩
      | false =>
        obtain ⟨r, r1, r2⟩ := run_findAsking_kds (v := v) (z := z) hk hkk w l es (i + 1) h.tail
        exact ⟨r, by simp [Instr.findAsking, he, hp, r1], r2.cons hp⟩

theorem findNow_kds {μ : Ro} {kt : TypeId} {d : TypeDesc} {ks : List Kd} {k v z : PV} (hu : P.underlying kt = some d) (ha : isAggT P kt = false) (hk : kds P 8 kt = some ks) (hkk : chk ks k.cells = true) :
    ∀ (l : List (PV × PV)) (es : List MapEntry) (i : Nat), EntOk P μ kt ks l es → ∃ r, Instr.findNow d (mkVal P kt k.cells) es i = some r ∧ Found k v z l es i r
  | [], es, i, h => by
    have : es = [] := List.eq_nil_of_length_eq_zero (by simpa using h.len)
    subst this
    exact ⟨none, by simp [Instr.findNow], .none rfl rfl rfl⟩
  | (a, u) :: l, es, i, h => by
    cases es with
    | nil => have := h.len; simp at this
    | cons e es =>
      have hka := h.key 0 a u (by simp)
      obtain ⟨h1, h2⟩ := keyOk_val hka (h.rep 0 a u e (by simp) (by simp)).1
      have he : Instr.sameNow d (mkVal P kt k.cells) e.key = some (peqL k.cells a.cells) := by
        rw [h2]
        have hk' := hk
        unfold kds at hk'
        rw [hu] at hk'
        cases d <;> simp at hk' <;> try (simp [isAggT, hu] at ha; done)
        all_goals
          subst hk'
          obtain ⟨p, hp1, hp2⟩ := chk_one hkk
          obtain ⟨q, hq1, hq2⟩ := chk_one h1
          rw [hp1, hq1]
          cases p <;> simp [kdIs] at hp2
          cases q <;> simp [kdIs] at hq2
          simp [mkVal, ha, valOf, Instr.sameNow, peqL, peq, hp2, hq2]
        all_goals
          (rw [Bool.eq_iff_iff, Go.MapKept.bytes_beq]; simp only [beq_iff_eq]; exact ⟨fun hh => by have := congrArg ByteArray.data hh; simpa using this, fun hh => by rw [hh]⟩)
      cases hp : peqL k.cells a.cells with
      | true => exact ⟨some (i, e.val), by simp [Instr.findNow, he, hp], .here hp⟩
      | false =>
        obtain ⟨r, r1, r2⟩ := findNow_kds (v := v) (z := z) hu ha hk hkk l es (i + 1) h.tail
        exact ⟨r, by simp [Instr.findNow, he, hp, r1], r2.cons hp⟩

theorem run_findKey_kds {μ : Ro} {kt : TypeId} {ks : List Kd} {k v z : PV} (hk : kds P 8 kt = some ks) (hkk : chk ks k.cells = true) (w : World) {l : List (PV × PV)} {es : List MapEntry} (h : EntOk P μ kt ks l es) :
    ∃ r, (Instr.findKey kt (mkVal P kt k.cells) es).run P w = .ok r w ∧ Found k v z l es 0 r := by
  obtain ⟨_, _, d, hu⟩ := kds_agg hk
  cases ha : isAggT P kt with
  | true =>
    rw [run_findKey_eq w (by unfold isAggT at ha; rw [hu] at ha ⊢; cases d <;> simp_all)]
    exact run_findAsking_kds hk hkk w l es 0 h
  | false =>
    obtain ⟨r, r1, r2⟩ := findNow_kds (v := v) (z := z) hu ha hk hkk l es 0 h
    exact ⟨r, Go.MapKept.run_findKey hu r1, r2⟩
end
end Go.Ab

set_option linter.unusedVariables false
namespace Go.Ab
open Go.RowKit (Below)

section
variable {R : Type} {E : Env}

theorem kdsOf_kds {P : Program} {t : TypeId} {ks : List Kd} (h : kdsOf P t = some ks) : kds P 8 t = some ks := by
  unfold kdsOf at h
  split at h
  · cases h
  · exact h

theorem keyOf_ok {kt : TypeId} {v : V} {key : PV} (h : keyOf E kt v = some key) : ∃ ks, kdsOf E.P kt = some ks ∧ keyOk E.P kt ks key = true ∧ ∀ (μ : Ro) (φ : Nat → Phys) (y : Value), RepV E.P μ φ v y → RepPV E.P μ key y := by
  unfold keyOf at h
  split at h
  · rename_i ks hks
    refine ⟨ks, hks, ?_⟩
    split at h
    · rename_i ha
      split at h
      · rename_i cs hc
        split at h
        · rename_i ps hp
          split at h
          · rename_i hck
            simp only [Option.some.injEq] at h; subst h
            obtain ⟨_, c2⟩ := aggCells_ok hc
            obtain ⟨p1, p2⟩ := frzs_ok hp
            refine ⟨by simp [keyOk, PV.cells, hck, ha, PV.isAgg], fun μ φ y hy => ?_⟩
            obtain ⟨xs, rfl, h1, h2, h3⟩ := c2 E.P μ φ y hy
            refine .agg (by omega) (fun i q z hq hz => ?_) h3
            obtain ⟨u, hu, hf⟩ := p2 i q hq
            exact frz_pure 1 hf (h2 i u z hu hz)
          · cases h
        · cases h
      · cases h
    · rename_i ha
      split at h
      · rename_i p
        split at h
        · rename_i hck
          simp only [Option.some.injEq] at h; subst h
          refine ⟨?_, fun μ φ y hy => by cases hy with | pv hy => exact hy⟩
          cases ks with
          | nil => simp [chk] at hck
          | cons kd r =>
            have hck' := hck
            simp only [chk, Bool.and_eq_true] at hck'
            have ha' : isAggT E.P kt = false := by simpa using ha
            cases kd <;> cases p <;> simp [kdIs] at hck' <;> simp_all [keyOk, PV.cells, PV.isAgg]
        · cases h
      · cases h
  · cases h

theorem BornOk.push {en : Array MapEntry} {clock : Nat} (h : BornOk en clock) {k v : Value} : BornOk (en.push { key := k, val := v, born := clock }) (clock + 1) := by
  intro i e hi
  rw [Array.getElem?_push] at hi
  split at hi
  · rename_i e1
    simp only [Option.some.injEq] at hi; subst hi
    refine ⟨Nat.lt_succ_self _, fun j e' hj hb => ?_⟩
    rw [Array.getElem?_push] at hj
    split at hj
    · rename_i e2; omega
    · have := (h j e' hj).1
      simp only at hb
      omega
  · obtain ⟨h1, h2⟩ := h i e hi
    refine ⟨by omega, fun j e' hj hb => ?_⟩
    rw [Array.getElem?_push] at hj
    split at hj
    · simp only [Option.some.injEq] at hj; subst hj
      simp only at hb
      omega
    · exact h2 j e' hj hb
theorem BornOk.modify {en : Array MapEntry} {clock : Nat} (h : BornOk en clock) (f : MapEntry → MapEntry) (hf : ∀ e, (f e).born = e.born) (k : Nat) : BornOk (en.modify k f) clock := by
  have key : ∀ (i : Nat) e, (en.modify k f)[i]? = some e → ∃ e0, en[i]? = some e0 ∧ e.born = e0.born := fun i e hi => by
    rw [Array.getElem?_modify] at hi
    split at hi
    · obtain ⟨e0, h0, rfl⟩ := Option.map_eq_some_iff.1 hi
      exact ⟨e0, h0, hf e0⟩
    · exact ⟨e, hi, rfl⟩
  intro i e hi
  obtain ⟨e0, h0, hb0⟩ := key i e hi
  obtain ⟨h1, h2⟩ := h i e0 h0
  refine ⟨by omega, fun j e' hj hb => ?_⟩
  obtain ⟨e1, h3, hb1⟩ := key j e' hj
  exact h2 j e1 h3 (by omega)
inductive MapAt (w : World) : Value → Array MapEntry → Prop
  | nil : MapAt w (.map none) #[]
  | at {g clock : Nat} {en : Array MapEntry} : w.heap[g]? = some (.map en clock) → MapAt w (.map (some g)) en

theorem run_lookup_kds {P : Program} {μ : Ro} {t kt et : TypeId} {ks : List Kd} {key z : PV} {zv y yi : Value} {w : World} {en : Array MapEntry} {l : List (PV × PV)} {ok : Bool} (hu : P.underlying t = some (.map kt et)) (hk : kdsOf P kt = some ks) (hkey : keyOk P kt ks key = true)
    (hyi : RepPV P μ key yi) (hy : MapAt w y en) (hE : EntOk P μ kt ks l en.toList) (hz : (zeroValue et).run P w = .ok zv w) (hzr : RepPV P μ z zv) :
    ∃ v, (Instr.lookup t y yi ok).run P w = .ok (if ok then .tuple #[v, .bool (mhas key l)] else v) w ∧ RepPV P μ (mlook key z l) v := by
  have hk8 := kdsOf_kds hk
  obtain ⟨hc, hv⟩ := keyOk_val hkey hyi
  obtain ⟨r, r1, r2⟩ := run_findKey_kds (v := .bad) (z := z) hk8 hc w hE
  have h1 := run_checkKey_kds 8 kt ks hk8 9992 w en.isEmpty key.cells hc
  rw [hv]
  have hrun : ∀ (x : Value × Bool), (r = none → x = (zv, false)) → (∀ j v, r = some (j, v) → x = (v, true)) → (Instr.lookup t y (mkVal P kt key.cells) ok).run P w = .ok (if ok then .tuple #[x.1, .bool x.2] else x.1) w := by
    intro x hx1 hx2
    cases hy with
    | nil =>
      have h1' : (Instr.checkKey true 10000 kt (mkVal P kt key.cells)).run P w = .ok () w := h1
      have r1' : (Instr.findKey kt (mkVal P kt key.cells) []).run P w = .ok r w := r1
      unfold Instr.lookup
      simp only [Sem.run_bind, run_underlying hu, Result.andThen_ok, Sem.run_pure]
      cases r with
      | none => rw [hx1 rfl]; cases ok <;> simp [h1', r1', hz]
      | some jv => obtain ⟨j, v⟩ := jv; rw [hx2 j v rfl]; cases ok <;> simp [h1', r1']
    | «at» hg =>
      have hgo := Go.MapKept.run_getObj_map (P := P) hg
      have h1' : (Instr.checkKey en.isEmpty 10000 kt (mkVal P kt key.cells)).run P w = .ok () w := h1
      unfold Instr.lookup
      simp only [Sem.run_bind, run_underlying hu, Result.andThen_ok, Sem.run_pure, hgo]
      cases r with
      | none => rw [hx1 rfl]; cases ok <;> simp [h1', r1, hz]
      | some jv => obtain ⟨j, v⟩ := jv; rw [hx2 j v rfl]; cases ok <;> simp [h1', r1]
  cases r2 with
  | none f1 f2 f3 =>
    refine ⟨zv, ?_, by rw [f2]; exact hzr⟩
    rw [f1]; exact hrun (zv, false) (fun _ => rfl) (fun j v h => by cases h)
  | @some j a u e f1 f2 f3 f4 f5 f6 =>
    refine ⟨e.val, ?_, by rw [f5]; exact (hE.rep j a u e f1 f2).2⟩
    rw [f4]; exact hrun (e.val, true) (fun h => by cases h) (fun j' v h => by simp only [Option.some.injEq, Prod.mk.injEq] at h; rw [h.2])

theorem xlookup_ok {t : TypeId} {x ix : V} {ok : Bool} {m : Mem} {k : V → Foot → Option R} {r : R} (h : xlookup E t x ix ok m k = some r) :
    ∃ v ft, (∀ m2 : Mem, (∀ x ∈ ft, m2 x.2 = m x.2) → ∀ (R' : Type) (k' : V → Foot → Option R'), xlookup E t x ix ok m2 k' = k' v ft) ∧ k v ft = some r ∧ (∀ x ∈ ft, x.1 = false) ∧ (∀ id, v.has id = false) ∧
    ∀ (G : Nat → Option (List PV)) (w0 : Base) (μ : Ro) (φ : Nat → Phys) (w : World) (y yi : Value), RelM E.P G w0 μ φ m w → RepV E.P μ φ x y → RepV E.P μ φ ix yi →
      ∃ u, (Instr.lookup t y yi ok).run E.P w = .ok u w ∧ RepV E.P μ φ v u := by
  have out : ∀ (q : PV) (b : Bool) (id : Nat), (if ok = true then V.tup [.pv q, .pv (.bool b)] else .pv q).has id = false := by
    intro q b id; cases ok <;> simp [V.has, hasL]
  have rep : ∀ (μ : Ro) (φ : Nat → Phys) (q : PV) (b : Bool) (v : Value), RepPV E.P μ q v → RepV E.P μ φ (if ok = true then V.tup [.pv q, .pv (.bool b)] else .pv q) (if ok = true then .tuple #[v, .bool b] else v) := by
    intro μ φ q b v hv
    cases ok with
    | false => exact .pv hv
    | true =>
      refine .tup (by simp) fun i p y hp hy => ?_
      match i with
      | 0 => simp at hp hy; subst hp; subst hy; exact .pv hv
      | 1 => simp at hp hy; subst hp; subst hy; exact .pv .bool
      | n + 2 => simp at hp
  unfold xlookup at h
  split at h
  · rename_i kt et hu
    split at h
    · rename_i z hz
      obtain ⟨zv, hz1, hz2⟩ := zeroPV_run hz
      split at h
      · rename_i id
        split at h
        · rename_i kt' es hm
          split at h
          · rename_i hkt
            subst hkt
            obtain ⟨key, hkey, h⟩ := Option.bind_eq_some_iff.1 h
            obtain ⟨q, q1, q2, q3, _⟩ := ldTy_ok h
            obtain ⟨ks, k1, k2, k3⟩ := keyOf_ok hkey
            refine ⟨_, _, fun m2 hm2 R' k' => by have := hm2 (false, id) (by simp); simp only at this; simp only [xlookup, hu, hz, this, hm, hkey, Option.bind_some, if_true]; exact q1 R' _, q2, by simp, out q _, fun G w0 μ φ w y yi hM hx hi => ?_⟩
            obtain ⟨g, en, clock, kk, hg, hh, hs, hk, hck, _, hv⟩ := hM.blk id _ hm
            rw [k1] at hk; simp only [Option.some.injEq] at hk; subst hk
            cases hx with
            | om hg' =>
              rw [hg] at hg'; simp only [Option.some.injEq] at hg'; subst hg'
              obtain ⟨v, v1, v2⟩ := run_lookup_kds (ok := ok) (z := z) hu k1 k2 (k3 μ φ yi hi) (.at hh) (l := es) ⟨by simpa using hs, hck, fun i k v e h1 h2 => hv i k v e h1 (by simpa using h2)⟩ (hz1 w) (hz2 μ)
              exact ⟨_, v1, rep μ φ q _ v (q3 _ _ _ v2)⟩
          · cases h
        · cases h
      · rename_i pm
        unfold mapCase at h
        split at h
        · obtain ⟨key, hkey, h⟩ := Option.bind_eq_some_iff.1 h
          obtain ⟨ks, k1, k2, k3⟩ := keyOf_ok hkey
          refine ⟨_, _, fun m2 hm2 R' k' => by simp only [xlookup, hu, hz, mapCase, hkey, Option.bind_some], h, by simp, out z _, fun G w0 μ φ w y yi hM hx hi => ?_⟩
          cases hx with
          | pv hx => cases hx with
            | nilm =>
              obtain ⟨v, v1, v2⟩ := run_lookup_kds (ok := ok) (z := z) hu k1 k2 (k3 μ φ yi hi) .nil (l := []) ⟨by simp, by simp, by simp⟩ (hz1 w) (hz2 μ)
              exact ⟨_, v1, rep μ φ z _ v v2⟩
        · rename_i kt' ks' vs'
          split at h
          · rename_i hkt
            subst hkt
            obtain ⟨key, hkey, h⟩ := Option.bind_eq_some_iff.1 h
            obtain ⟨q, q1, q2, q3, _⟩ := ldTy_ok h
            obtain ⟨ks, k1, k2, k3⟩ := keyOf_ok hkey
            refine ⟨_, _, fun m2 hm2 R' k' => by simp only [xlookup, hu, hz, mapCase, hkey, Option.bind_some, if_true]; exact q1 R' _, q2, by simp, out q _, fun G w0 μ φ w y yi hM hx hi => ?_⟩
            cases hx with
            | pv hx => cases hx with
              | @rm _ _ _ b clock en kk m1 m2 m3 m4 m5 m6 m7 =>
                rw [k1] at m4; simp only [Option.some.injEq] at m4; subst m4
                have hzip : ∀ (i : Nat) k v, (ks'.zip vs')[i]? = some (k, v) → ks'[i]? = some k ∧ vs'[i]? = some v := fun i k v h => by
                  rw [List.getElem?_zip_eq_some] at h; exact h
                obtain ⟨v, v1, v2⟩ := run_lookup_kds (ok := ok) (z := z) hu k1 k2 (k3 μ φ yi hi) (.at (hM.ro _ _ m1)) (l := ks'.zip vs') ⟨by simp [m2, m3], fun i k v h => m5 i k (hzip i k v h).1, fun i k v e h1 h2 =>
                  ⟨m6 i k e (hzip i k v h1).1 (by simpa using h2), m7 i v e (hzip i k v h1).2 (by simpa using h2)⟩⟩ (hz1 w) (hz2 μ)
                exact ⟨_, v1, rep μ φ q _ v (q3 _ _ _ v2)⟩
          · cases h
        · cases h
      · cases h
    · cases h
  · cases h
theorem frzVal_ok {m m' : Mem} {v : V} {p : PV} (h : frzVal m v = some (p, m')) : Lives m m' ∧
    ∀ (P : Program) (G : Nat → Option (List PV)) (w0 : Base) (μ : Ro) (φ : Nat → Phys) (w : World) (x : Value), RelM P G w0 μ φ m w → RepV P μ φ v x →
      ∃ μ', (∀ b o, μ b = some o → μ' b = some o) ∧ RelM P G w0 μ' φ m' w ∧ RepPV P μ' p x := by
  unfold frzVal at h
  split at h
  · rename_i cs
    split at h
    · rename_i ps m1 hf
      simp only [Option.some.injEq, Prod.mk.injEq] at h; obtain ⟨rfl, rfl⟩ := h
      obtain ⟨f1, f2, f3⟩ := frzSL_ok hf
      refine ⟨f1, fun P G w0 μ φ w x hM hx => ?_⟩
      cases hx with
      | @agg _ xs h1 h2 h3 =>
        have hX : ∀ (i : Nat), i < cs.length → xs[i]? = some (xs.getD i undef) := fun i hi => by
          have hlt : i < xs.size := by omega
          rw [Array.getElem?_eq_getElem hlt]; simp [Array.getD, hlt]
        obtain ⟨μ', e1, e2, e3⟩ := f3 P G w0 μ φ w (fun i => xs.getD i undef) hM fun i u hu => h2 i u _ hu (hX i (List.getElem?_eq_some_iff.1 hu).1)
        refine ⟨μ', e1, e2, .agg (by omega) (fun j q y hq hy => ?_) h3⟩
        have := e3 j q hq
        rw [hX j (by have := (List.getElem?_eq_some_iff.1 hq).1; omega)] at hy
        simp only [Option.some.injEq] at hy; subst hy; exact this
    · cases h
  · exact frzS_ok h
theorem frzVal_pure {m' : Mem} {v : V} {p : PV} (h : frzVal noMem v = some (p, m')) : ∀ (P : Program) (μ : Ro) (φ : Nat → Phys) (x : Value), RepV P μ φ v x → RepPV P μ p x := by
  unfold frzVal at h
  split at h
  · rename_i cs
    split at h
    · rename_i ps m1 hf
      simp only [Option.some.injEq, Prod.mk.injEq] at h; obtain ⟨rfl, rfl⟩ := h
      obtain ⟨f2, f3⟩ := frzSL_pure hf
      intro P μ φ x hx
      cases hx with
      | @agg _ xs h1 h2 h3 =>
        have hX : ∀ (i : Nat), i < cs.length → xs[i]? = some (xs.getD i undef) := fun i hi => by
          have hlt : i < xs.size := by omega
          rw [Array.getElem?_eq_getElem hlt]; simp [Array.getD, hlt]
        have e3 := f3 P μ φ (fun i => xs.getD i undef) fun i u hu => h2 i u _ hu (hX i (List.getElem?_eq_some_iff.1 hu).1)
        refine .agg (by omega) (fun j q y hq hy => ?_) h3
        have := e3 j q hq
        rw [hX j (by have := (List.getElem?_eq_some_iff.1 hq).1; omega)] at hy
        simp only [Option.some.injEq] at hy; subst hy; exact this
    · cases h
  · exact frzS_pure h
theorem frzValD_ok {draw : Bool} {m m' : Mem} {v : V} {p : PV} (h : frzValD draw m v = some (p, m')) : Lives m m' ∧
    (draw = true → m' = m ∧ ∀ m2 : Mem, frzValD true m2 v = some (p, m2)) ∧
    ∀ (P : Program) (G : Nat → Option (List PV)) (w0 : Base) (μ : Ro) (φ : Nat → Phys) (w : World) (x : Value), RelM P G w0 μ φ m w → RepV P μ φ v x →
      ∃ μ', (∀ b o, μ b = some o → μ' b = some o) ∧ RelM P G w0 μ' φ m' w ∧ RepPV P μ' p x := by
  unfold frzValD at h
  split at h
  · rename_i hd
    split at h
    · rename_i q m1 hf
      simp only [Option.some.injEq, Prod.mk.injEq] at h; obtain ⟨rfl, rfl⟩ := h
      exact ⟨.refl _, fun _ => ⟨rfl, fun m2 => by simp [frzValD, hf]⟩, fun P G w0 μ φ w x hM hx => ⟨μ, fun _ _ h => h, hM, frzVal_pure hf P μ φ x hx⟩⟩
    · cases h
  · rename_i hd
    obtain ⟨h1, h2⟩ := frzVal_ok h
    exact ⟨h1, fun hd' => absurd hd' hd, h2⟩

theorem sameBits_refl {ks : List Kd} : ∀ {ps : List PV}, chk ks ps = true → ∀ (n : Nat), (ps.map valOf).all (fun v => Instr.sameBits n v v) = true := by
  induction ks with
  | nil => intro ps h n; cases ps <;> simp [chk] at h; rfl
  | cons k ks ih =>
    intro ps h n
    cases ps with
    | nil => simp [chk] at h
    | cons p ps =>
      simp only [chk, Bool.and_eq_true] at h
      simp only [List.map_cons, List.all_cons, ih h.2 n, Bool.and_true]
      cases k <;> cases p <;> simp [kdIs] at h <;> simp [valOf, Instr.sameBits, (Go.MapKept.bytes_beq _ _).2]
theorem sameBits_mkVal {P : Program} {t : TypeId} {ks : List Kd} {ps : List PV} (h : chk ks ps = true) (hl : isAggT P t = false → ps.length = 1) (n : Nat) : Instr.sameBits (n + 1) (mkVal P t ps) (mkVal P t ps) = true := by
  unfold mkVal
  cases ha : isAggT P t with
  | true =>
    have := sameBits_refl h n
    simp only [if_true, Instr.sameBits, BEq.rfl, Bool.true_and]
    generalize ps.map valOf = xs at this
    induction xs with
    | nil => rfl
    | cons x r ih => simp only [List.all_cons, Bool.and_eq_true] at this; simp [this.1]; simpa using ih this.2
  | false =>
    have h1 := hl ha
    match ps, h1 with
    | [p], _ =>
      have := sameBits_refl h (n + 1)
      simpa using this

theorem xmapUpdate_ok {draw : Bool} {t : TypeId} {x key val : V} {m : Mem} {k : Mem → Foot → Option R} {r : R} (h : xmapUpdate E draw t x key val m k = some r) :
    ∃ m' ft, k m' ft = some r ∧ (draw = true → ∃ id b, m' = memSet m id b ∧ ft = [(true, id)] ∧ ∀ m2 : Mem, m2 id = m id → ∀ (R' : Type) (k' : Mem → Foot → Option R'), xmapUpdate E true t x key val m2 k' = k' (memSet m2 id b) [(true, id)]) ∧
    Lives m m' ∧ ∀ (G : Nat → Option (List PV)) (w0 : Base) (μ : Ro) (φ : Nat → Phys) (w : World) (ya yk yv : Value), RelM E.P G w0 μ φ m w → RepV E.P μ φ x ya → RepV E.P μ φ key yk → RepV E.P μ φ val yv →
      ∃ w' μ', (Instr.mapUpdate t ya yk yv).run E.P w = .ok () w' ∧ (∀ b o, μ b = some o → μ' b = some o) ∧ RelM E.P G w0 μ' φ m' w' := by
  unfold xmapUpdate at h
  split at h
  · rename_i kt et hu
    split at h
    · rename_i id
      split at h
      · rename_i v m1 hf
        obtain ⟨f1, f2, f3⟩ := frzValD_ok hf
        split at h
        · rename_i kt' es hm
          split at h
          · rename_i hkt
            subst hkt
            obtain ⟨kp, hkey, h⟩ := Option.bind_eq_some_iff.1 h
            obtain ⟨ks, k1, k2, k3⟩ := keyOf_ok hkey
            refine ⟨_, _, h, fun hd => ?_, f1.trans .set, fun G w0 μ φ w ya yk yv hM hx hk hv => ?_⟩
            · obtain ⟨rfl, f4⟩ := f2 hd
              exact ⟨id, _, rfl, rfl, fun m2 hm2 R' k' => by simp only [xmapUpdate, hu, f4 m2, hm2, hm, hkey, Option.bind_some, if_true]⟩
            · obtain ⟨μ', g1, g2, g3⟩ := f3 _ _ _ _ _ _ _ hM hv
              obtain ⟨g, en, clock, kk, hg, hh, hs, hkk, hck, hbo, hrep⟩ := g2.blk id _ hm
              rw [k1] at hkk; simp only [Option.some.injEq] at hkk; subst hkk
              have hk8 := kdsOf_kds k1
              have hkr := (k3 μ φ yk hk).mono g1
              obtain ⟨hc, hkv⟩ := keyOk_val k2 hkr
              have hE : EntOk E.P μ' kt' ks es en.toList := ⟨by simpa using hs, hck, fun i k v e h1 h2 => hrep i k v e h1 (by simpa using h2)⟩
              obtain ⟨res, r1, r2⟩ := run_findKey_kds (v := v) (z := .bad) hk8 hc w hE
              have hgo := Go.MapKept.run_getObj_map (P := E.P) hh
              have h1 : (Instr.checkKey false 10000 kt' yk).run E.P w = .ok () w := by rw [hkv]; exact run_checkKey_kds 8 kt' ks hk8 9992 w false kp.cells hc
              rw [← hkv] at r1
              have hlt : g < w.heap.size := (Array.getElem?_eq_some_iff.1 hh).1
              cases hx with
              | om hg' =>
                rw [hg] at hg'; simp only [Option.some.injEq] at hg'; subst hg'
                have fin : ∀ (o : Obj) (en' : Array MapEntry) (clock' : Nat), o = .map en' clock' → (Instr.mapUpdate t (.map (some g)) yk yv).run E.P w = .ok () { w with heap := w.heap.setIfInBounds g o } → BornOk en' clock' → EntOk E.P μ' kt' ks (mput kp v es) en'.toList →
                    ∃ w' μ', (Instr.mapUpdate t (.map (some g)) yk yv).run E.P w = .ok () w' ∧ (∀ b o, μ b = some o → μ' b = some o) ∧ RelM E.P G w0 μ' φ (memSet m1 id (.map kt' (mput kp v es))) w' := by
                  rintro o en' clock' rfl hr hbo' hE'
                  refine ⟨_, μ', hr, g1, g2.write hm rfl hg ⟨⟨rfl, rfl, rfl, by simp, fun k hk => by simp [Array.getElem?_setIfInBounds_ne (Nat.ne_of_gt hk)]⟩, fun _ => Nat.le_refl _⟩ (by simp) (fun k hk => by simp [Array.getElem?_setIfInBounds_ne (Ne.symm hk)]) ?_ rfl (by simp [Blk.names])⟩
                  exact ⟨g, en', clock', ks, hg, by simp [hlt], by simpa using hE'.len, k1, hE'.key, hbo', fun i k v e h1 h2 => hE'.rep i k v e h1 (by simpa using h2)⟩
                cases r2 with
                | none e1 e2 e3 =>
                  have hso := Go.MapKept.run_setObj_map (P := E.P) (.map (en.push { key := yk, val := yv, born := clock }) (clock + 1)) hh
                  refine fin _ _ _ rfl (by
                    simp only [Instr.mapUpdate, Sem.run_bind, run_underlying hu, hgo, h1, r1, Result.andThen_ok]
                    exact hso) hbo.push ?_
                  rw [e3]
                  have hget : ∀ (i : Nat) k' v' e, (es ++ [(kp, v)])[i]? = some (k', v') → (en.push { key := yk, val := yv, born := clock }).toList[i]? = some e → (es[i]? = some (k', v') ∧ en.toList[i]? = some e) ∨ (k' = kp ∧ v' = v ∧ e.key = yk ∧ e.val = yv) := by
                    intro i k' v' e h1 h2
                    rw [Array.toList_push, List.getElem?_append] at h2
                    rw [List.getElem?_append] at h1
                    rw [hE.len] at h2
                    split at h1
                    · rename_i hi; rw [if_pos hi] at h2; exact .inl ⟨h1, h2⟩
                    · rename_i hi
                      rw [if_neg hi] at h2
                      cases hj : i - es.length with
                      | zero => rw [hj] at h1 h2; simp at h1 h2; exact .inr ⟨h1.1.symm, h1.2.symm, by rw [← h2], by rw [← h2]⟩
                      | succ j => rw [hj] at h1; simp at h1
                  refine ⟨by simp [hs], fun i k' v' h => ?_, fun i k' v' e h1 h2 => ?_⟩
                  · rw [List.getElem?_append] at h
                    split at h
                    · exact hck i k' v' h
                    · cases hj : i - es.length with
                      | zero => rw [hj] at h; simp at h; rw [← h.1]; exact k2
                      | succ j => rw [hj] at h; simp at h
                  · rcases hget i k' v' e h1 h2 with ⟨a1, a2⟩ | ⟨rfl, rfl, a3, a4⟩
                    · exact hE.rep i k' v' e a1 a2
                    · exact ⟨by rw [a3]; exact hkr, by rw [a4]; exact g3⟩
                | @some j a u e e1 e2 e3 e4 e5 e6 =>
                  have e2' : en[j]? = some e := by simpa using e2
                  obtain ⟨hca, hva⟩ := keyOk_val (hck j a u e1) (hrep j a u e e1 e2').1
                  have hcells := peqL_eq hc hca e3
                  have hsb : Instr.sameBits 10000 e.key yk = true := by
                    rw [hva, hkv, ← hcells]
                    refine sameBits_mkVal (n := 9999) hc (fun ha => ?_)
                    rw [chk_len hc]; exact (kds_agg hk8).2.1 ha
                  have hso := Go.MapKept.run_setObj_map (P := E.P) (.map (en.modify j fun e => { e with key := yk, val := yv }) clock) hh
                  have hjl : j < en.size := (Array.getElem?_eq_some_iff.1 e2').1
                  refine fin _ _ _ rfl (by
                    simp only [Instr.mapUpdate, Sem.run_bind, run_underlying hu, hgo, h1, r1, Result.andThen_ok]
                    simp only [Nat.zero_add, e2', Option.map_some, Option.getD_some, Instr.keyThatStays, hsb, if_true, Sem.run_pure, Result.andThen_ok]
                    exact hso) (hbo.modify (fun e => { e with key := yk, val := yv }) (fun _ => rfl) _) ?_
                  rw [e6]
                  have hset : ∀ (i : Nat) k' v', (es.set j (kp, v))[i]? = some (k', v') → (i = j ∧ k' = kp ∧ v' = v) ∨ (i ≠ j ∧ es[i]? = some (k', v')) := by
                    intro i k' v' h
                    rw [List.getElem?_set] at h
                    split at h
                    · rename_i hij; subst hij
                      split at h
                      · simp only [Option.some.injEq, Prod.mk.injEq] at h; exact .inl ⟨rfl, h.1.symm, h.2.symm⟩
                      · cases h
                    · rename_i hij; exact .inr ⟨fun e => hij e.symm, h⟩
                  refine ⟨by simp [hs], fun i k' v' h => ?_, fun i k' v' e' h1 h2 => ?_⟩
                  · rcases hset i k' v' h with ⟨rfl, rfl, rfl⟩ | ⟨_, h⟩
                    · exact k2
                    · exact hck i k' v' h
                  · have h2' : (en.modify j fun e => { e with key := yk, val := yv })[i]? = some e' := by rw [Array.getElem?_toList] at h2; exact h2
                    rw [Array.getElem?_modify] at h2'
                    rcases hset i k' v' h1 with ⟨rfl, rfl, rfl⟩ | ⟨hne, h1⟩
                    · rw [if_pos rfl, e2'] at h2'
                      simp only [Option.map_some, Option.some.injEq] at h2'
                      subst h2'
                      exact ⟨hkr, g3⟩
                    · rw [if_neg (Ne.symm hne)] at h2'
                      exact hE.rep i k' v' e' h1 (by simpa using h2')
          · cases h
        · cases h
      · cases h
    · cases h
  · cases h

theorem makeMap_rep {P : Program} {μ : Ro} {φ : Nat → Phys} {w : World} {site : Nat} {kt : TypeId} {ks : List Kd} (hk : kdsOf P kt = some ks) (hφ : (φ site).g = some w.heap.size) : RepB P μ φ (w.alloc (.map #[] 0)) site (.map kt []) :=
  ⟨w.heap.size, #[], 0, ks, hφ, alloc_new w _, rfl, hk, by simp, fun i e h => by simp at h, by simp⟩
end
end Go.Ab

set_option linter.unusedVariables false
namespace Go.Ab
open Go.RowKit (Below)
def SoundF (P : Program) (G : Nat → Option (List PV)) (g : FuncId) (M : List PV → Option PV) : Prop :=
  (∃ fn c, P.funcs[g]? = some fn ∧ fn.body = some c ∧ (fn.name == "runtime.NumGoroutine") = false) ∧
  ∀ (ps : List PV) (r : PV), M ps = some r → ∀ (w : World) (μ : Ro) (xs : Array Value), (∀ b o, μ b = some o → w.heap[b]? = some o) → (∀ g cs, G g = some cs → VarIs P μ g cs) →
    ps.length = xs.size → (∀ (i : Nat) p x, ps[i]? = some p → xs[i]? = some x → RepPV P μ p x) →
    Calls P g xs w fun e w' => ∃ y, e = .returned y ∧ Bel w.heap.size w w' ∧ RepPV P (roFresh μ w w') r y
def SoundO (P : Program) (G : Nat → Option (List PV)) (g : FuncId) (M : List PV → Option PV) : Prop :=
  (∃ fn c, P.funcs[g]? = some fn ∧ fn.body = some c ∧ (fn.name == "runtime.NumGoroutine") = false) ∧
  ∀ (fn : Func) (t e : TypeId), P.funcs[g]? = some fn → fn.resultTypes.toList = [t] → P.underlying t = some (.slice e) → ∀ (ps : List PV) (r : PV), M ps = some r → ∀ (w : World) (μ : Ro) (xs : Array Value), (∀ b o, μ b = some o → w.heap[b]? = some o) → (∀ g cs, G g = some cs → VarIs P μ g cs) →
    ps.length = xs.size → (∀ (i : Nat) p x, ps[i]? = some p → xs[i]? = some x → RepPV P μ p x) →
    Calls P g xs w fun en w' => ∃ (y : Value) (ph : Phys) (es : List PV), en = .returned y ∧ Bel w.heap.size w w' ∧ r = .rs (csz P e) es ∧ (∀ g, ph.g = some g → w.heap.size ≤ g) ∧ RepArr P (roBut (roFresh μ w w') ph.g) (fun _ => ph) w' 0 (csz P e) e es ∧ RepV P μ (fun _ => ph) (.os 0) y

def appM (m : Mem) : Option (Nat × Blk) → Mem
  | some (id, b) => memSet m id b
  | none => m
def InlOk (E : Env) (g : FuncId) (args : List V) (f : Fr) (m : Mem) (v : V) (f' : Fr) (m' : Mem) : Prop :=
  (∃ fn c, E.P.funcs[g]? = some fn ∧ fn.body = some c ∧ (fn.name == "runtime.NumGoroutine") = false) ∧
  ∀ (w0 : Base) (μ : Ro) (φ : Nat → Phys) (ρ : Nat → Value) (w : World) (xs : Array Value), RelM E.P E.glob w0 μ φ m w → FrOk E.P μ φ m f ρ → args.length = xs.size →
    (∀ (i : Nat) v x, args[i]? = some v → xs[i]? = some x → RepV E.P μ φ v x) → (∀ id, hasL id args = true → (m id).isSome = true) →
    Calls E.P g xs w fun e w' => ∃ y μ' φ', e = .returned y ∧ RelM E.P E.glob w0 μ' φ' m' w' ∧ FrOk E.P μ' φ' m' f' ρ ∧ RepV E.P μ' φ' v y ∧ ∀ id, v.has id = true → (m' id).isSome = true
def InlAll {R : Type} (P : Program) (G : Nat → Option (List PV)) (g : FuncId) (args : List V) (f : Fr) (m : Mem) (k : V → Fr → Mem → Option R) (r : R) : Prop :=
  (∃ fn c, P.funcs[g]? = some fn ∧ fn.body = some c ∧ (fn.name == "runtime.NumGoroutine") = false) ∧
  ∀ (w0 : Base) (μ : Ro) (φ : Nat → Phys) (ρ : Nat → Value) (w : World) (xs : Array Value), RelM P G w0 μ φ m w → FrOk P μ φ m f ρ → args.length = xs.size →
    (∀ (i : Nat) v x, args[i]? = some v → xs[i]? = some x → RepV P μ φ v x) → (∀ id, hasL id args = true → (m id).isSome = true) →
    Calls P g xs w fun e w' => ∃ v f' m' y μ' φ', k v f' m' = some r ∧ e = .returned y ∧ RelM P G w0 μ' φ' m' w' ∧ FrOk P μ' φ' m' f' ρ ∧ RepV P μ' φ' v y ∧ ∀ id, v.has id = true → (m' id).isSome = true
def YlOk (P : Program) (G : Nat → Option (List PV)) (nt : Nat) (yl : YL) (w0 : Base) : Prop :=
  ∀ (R : Type) site id args f m (k : V → Fr → Mem → Option R) r, yl R nt site id args f m k = some r →
    ∀ (μ : Ro) (φ : Nat → Phys) (ρ : Nat → Value) (w : World) (xs : Array Value), RelM P G w0 μ φ m w → FrOk P μ φ m f ρ → (∀ t, nt ≤ t → ρ t = w0.sv t) → args.length = xs.size →
    (∀ (i : Nat) v x, args[i]? = some v → xs[i]? = some x → RepV P μ φ v x) → (∀ id, hasL id args = true → (m id).isSome = true) → ∀ g, (φ id).g = some g →
    ∃ fn tmps assign body, (Instr.yield g xs).run P w = .ok (.round g fn tmps assign body) w ∧
      RoundIn Fence.wide 0 P g fn tmps assign body w fun e w' => ∃ v f' m' y μ' φ', k v f' m' = some r ∧ e = .returned y ∧ (∀ b o, μ b = some o → μ' b = some o) ∧ RelM P G w0 μ' φ' m' w' ∧ FrOk P μ' φ' m' f' ρ ∧ RepV P μ' φ' v y ∧ ∀ id, v.has id = true → (m' id).isSome = true
theorem ylOk_no (P : Program) (G : Nat → Option (List PV)) (nt : Nat) (w0 : Base) : YlOk P G nt noYl w0 := fun R site id args f m k r h => by cases h
theorem RelM.rekeep {P : Program} {G : Nat → Option (List PV)} {w0 : Base} {μ : Ro} {φ : Nat → Phys} {m : Mem} {w : World} (h : RelM P G w0 μ φ m w) {K : Ro} (hK : ∀ b o, K b = some o → μ b = some o) : RelM P G { w0 with keep := K } μ φ m w :=
  ⟨h.below, h.ro, h.glob, h.blk, h.own, h.inj, h.apart, h.liveB, h.base, hK, h.lps⟩
theorem RelM.unkeep {P : Program} {G : Nat → Option (List PV)} {w0 : Base} {μ : Ro} {φ : Nat → Phys} {m : Mem} {w : World} {K : Ro} (h : RelM P G { w0 with keep := K } μ φ m w) (hK : ∀ b o, w0.keep b = some o → K b = some o) : RelM P G w0 μ φ m w :=
  ⟨h.below, h.ro, h.glob, h.blk, h.own, h.inj, h.apart, h.liveB, h.base, fun b o hb => h.keep b o (hK b o hb), h.lps⟩
theorem YlOk.rekeep {P : Program} {G : Nat → Option (List PV)} {nt : Nat} {yl : YL} {w0 : Base} (h : YlOk P G nt yl w0) {K : Ro} (hK : ∀ b o, w0.keep b = some o → K b = some o) : YlOk P G nt yl { w0 with keep := K } :=
  fun R site id args f m k r hy μ φ ρ w xs hM hF hρ hl hr hlv g hg =>
    let ⟨fn, tmps, assign, body, y1, y2⟩ := h R site id args f m k r hy μ φ ρ w xs (hM.unkeep hK) hF hρ hl hr hlv g hg
    ⟨fn, tmps, assign, body, y1, y2.mono fun e w' ⟨v, f', m', y, μ', φ', a1, a2, a3, a4, a5⟩ => ⟨v, f', m', y, μ', φ', a1, a2, a3, a4.rekeep fun b o hb => a3 b o (hM.keep b o hb), a5⟩⟩
def RngAll {R : Type} (P : Program) (G : Nat → Option (List PV)) (g : FuncId) (yl : YL) (args : List V) (f : Fr) (m : Mem) (k : V → Fr → Mem → Option R) (r : R) : Prop :=
  ∃ fn c, P.funcs[g]? = some fn ∧ fn.body = some c ∧ (fn.name == "runtime.NumGoroutine") = false ∧
  ∀ (w0 : Base) (μ : Ro) (φ : Nat → Phys) (ρ : Nat → Value) (w : World) (xs : Array Value), RelM P G w0 μ φ m w → FrOk P μ φ m f ρ → args.length = xs.size →
    (∀ (i : Nat) v x, args[i]? = some v → xs[i]? = some x → RepV P μ φ v x) → (∀ id, hasL id args = true → (m id).isSome = true) →
    YlOk P G fn.ntmps yl { w0 with sv := fun t => ρ (t - fn.ntmps) } →
    Calls P g xs w fun e w' => ∃ v f' m' y μ' φ', k v f' m' = some r ∧ e = .returned y ∧ RelM P G w0 μ' φ' m' w' ∧ FrOk P μ' φ' m' f' ρ ∧ RepV P μ' φ' v y ∧ ∀ id, v.has id = true → (m' id).isSome = true

structure EnvOk (E : Env) : Prop where
  mixed : E.P.follows .mixedOrders = true
  lp : ∀ (S R : Type) (body : S → (S → Option R) → Option R) s r, E.lp.run body s = some r → ∃ n, loopS body n s = some r
  ctx : ∀ g M, E.ctx g = some M → SoundF E.P E.glob g M
  own : ∀ g M, E.own g = some M → SoundO E.P E.glob g M
  inl : ∀ (R : Type) g cid args f m (k : V → Fr → Mem → Option R) r, E.inl R g cid args f m k = some r → InlAll E.P E.glob g args f m k r
  rng : ∀ (R : Type) g cid yl args f m (k : V → Fr → Mem → Option R) r, E.rng R g cid yl args f m k = some r → RngAll E.P E.glob g yl args f m k r

section
variable {R : Type} {E : Env}

theorem mem_readsL {f : V → List Nat} {id : Nat} : ∀ {cs : List V}, id ∈ readsL f cs ↔ ∃ v ∈ cs, id ∈ f v
  | [] => by simp [readsL]
  | c :: r => by simp [readsL, mem_readsL (cs := r)]
theorem frzs_congr {g g' : V → Option PV} : ∀ {cs : List V}, (∀ v ∈ cs, g' v = g v) → frzs g' cs = frzs g cs
  | [], _ => rfl
  | c :: r, h => by simp only [frzs]; rw [h c (by simp), frzs_congr (cs := r) fun v hv => h v (by simp [hv])]
theorem frz_agree {m m2 : Mem} : ∀ (d : Nat) {v : V}, (∀ id ∈ readsV m d v, m2 id = m id) → frz m2 d v = frz m d v
  | 0, v, _ => rfl
  | d + 1, v, h => by
    cases v with
    | agg cs =>
      simp only [frz]
      rw [frzs_congr fun v hv => frz_agree d fun id hid => h id (by simp only [readsV]; exact mem_readsL.2 ⟨v, hv, hid⟩)]
    | tup cs =>
      simp only [frz]
      rw [frzs_congr fun v hv => frz_agree d fun id hid => h id (by simp only [readsV]; exact mem_readsL.2 ⟨v, hv, hid⟩)]
    | fn g cs =>
      simp only [frz]
      rw [frzs_congr fun v hv => frz_agree d fun id hid => h id (by simp only [readsV]; exact mem_readsL.2 ⟨v, hv, hid⟩)]
    | op id off =>
      have h0 := h id (by simp [readsV])
      simp only [frz, h0]
      split
      · rename_i cs hm
        rw [frzs_congr fun v hv => frz_agree d fun id' hid => h id' (by simp only [readsV, hm]; exact List.mem_cons_of_mem _ (mem_readsL.2 ⟨v, hv, hid⟩))]
      · rfl
    | oe id i off => simp only [frz, h id (by simp [readsV])]
    | os id => simp only [frz, h id (by simp [readsV])]
    | osub id lo len => simp only [frz, h id (by simp [readsV])]
    | om id => simp only [frz, h id (by simp [readsV])]
    | os2 id i off => simp only [frz, h id (by simp [readsV])]
    | _ => rfl

theorem readsL_congr {g g' : V → List Nat} : ∀ {cs : List V}, (∀ v ∈ cs, g' v = g v) → readsL g' cs = readsL g cs
  | [], _ => rfl
  | c :: r, h => by simp only [readsL]; rw [h c (by simp), readsL_congr (cs := r) fun v hv => h v (by simp [hv])]
theorem reads_agree {m m2 : Mem} : ∀ (d : Nat) {v : V}, (∀ id ∈ readsV m d v, m2 id = m id) → readsV m2 d v = readsV m d v
  | 0, v, _ => rfl
  | d + 1, v, h => by
    cases v with
    | agg cs =>
      simp only [readsV]
      exact readsL_congr fun v hv => reads_agree d fun id hid => h id (by simp only [readsV]; exact mem_readsL.2 ⟨v, hv, hid⟩)
    | tup cs =>
      simp only [readsV]
      exact readsL_congr fun v hv => reads_agree d fun id hid => h id (by simp only [readsV]; exact mem_readsL.2 ⟨v, hv, hid⟩)
    | fn g cs =>
      simp only [readsV]
      exact readsL_congr fun v hv => reads_agree d fun id hid => h id (by simp only [readsV]; exact mem_readsL.2 ⟨v, hv, hid⟩)
    | op id off =>
      have h0 := h id (by simp [readsV])
      simp only [readsV, h0]
      split
      · rename_i cs hm
        rw [readsL_congr fun v hv => reads_agree d fun id' hid => h id' (by simp only [readsV, hm]; exact List.mem_cons_of_mem _ (mem_readsL.2 ⟨v, hv, hid⟩))]
      · rfl
    | _ => rfl
theorem ldTy_scalar {t : TypeId} {p : PV} {k : PV → Option R} {r : R} (hs : scalarT E t = true) (h : ldTy E t p k = some r) : ∃ q, (∀ (R' : Type) (k' : PV → Option R'), ldTy E t p k' = k' q) ∧ k q = some r ∧ ∀ (P : Program) (μ μ' : Ro) x, RepPV P μ p x → RepPV P μ' q x := by
  unfold scalarT at hs
  unfold ldTy at h
  split at h
  · rename_i q hu
    obtain ⟨n, hn, hk⟩ := Option.bind_eq_some_iff.1 h
    have hp : p = .int q n := by
      cases p <;> simp [asInt] at hn
      obtain ⟨rfl, rfl⟩ := hn; rfl
    exact ⟨.int q n, fun R' k' => by simp [ldTy, hu, hn], hk, fun P μ μ' x hx => by subst hp; cases hx with | int h => exact .int h⟩
  · rename_i hu
    obtain ⟨n, hn, hk⟩ := Option.bind_eq_some_iff.1 h
    have hp : p = .bool n := by
      cases p <;> simp [asBool] at hn
      subst hn; rfl
    exact ⟨.bool n, fun R' k' => by simp [ldTy, hu, hn], hk, fun P μ μ' x hx => by subst hp; cases hx; exact .bool⟩
  · rename_i hu
    obtain ⟨n, hn, hk⟩ := Option.bind_eq_some_iff.1 h
    have hp : p = .str n := by
      cases p <;> simp [asStr] at hn
      subst hn; rfl
    exact ⟨.str n, fun R' k' => by simp [ldTy, hu, hn], hk, fun P μ μ' x hx => by subst hp; cases hx with | str h => exact .str h⟩
  all_goals (rename_i hu; simp [hu] at hs)

theorem ldTys_ok : ∀ {ts : List TypeId} {ps : List PV} {k : List V → Option R} {r : R}, ldTys E ts ps k = some r →
    ∃ vs, (∀ (R' : Type) (k' : List V → Option R'), ldTys E ts ps k' = k' vs) ∧ k vs = some r ∧ vs.length = ps.length ∧ (∀ id, hasL id vs = false) ∧
      (∀ (P : Program) (μ : Ro) (φ : Nat → Phys) (i : Nat) p v x, ps[i]? = some p → vs[i]? = some v → RepPV P μ p x → RepV P μ φ v x) ∧
      (ts.all (scalarT E) = true → ∀ (P : Program) (μ μ' : Ro) (φ : Nat → Phys) (i : Nat) p v x, ps[i]? = some p → vs[i]? = some v → RepPV P μ p x → RepV P μ' φ v x)
  | [], [], k, r, h => ⟨[], fun R' k' => rfl, h, rfl, fun _ => rfl, by simp, by simp⟩
  | t :: ts, p :: ps, k, r, h => by
    simp only [ldTys] at h
    obtain ⟨q, q1, q2, q3, _⟩ := ldTy_ok h
    obtain ⟨vs, v1, v2, v3, v4, v5, v6⟩ := ldTys_ok q2
    refine ⟨.pv q :: vs, fun R' k' => by simp only [ldTys]; rw [q1, v1], v2, by simp [v3], fun id => by simp [hasL, v4], fun P μ φ i p' v x hp hv hx => ?_, fun hs P μ μ' φ i p' v x hp hv hx => ?_⟩
    · cases i with
      | zero => simp at hp hv; subst hp; subst hv; exact .pv (q3 _ _ _ hx)
      | succ i => exact v5 P μ φ i p' v x (by simpa using hp) (by simpa using hv) hx
    · simp only [List.all_cons, Bool.and_eq_true] at hs
      cases i with
      | zero =>
        simp at hp hv; subst hp; subst hv
        obtain ⟨q', s1, s2, s3⟩ := ldTy_scalar hs.1 h
        have : q' = q := by
          have e1 := s1 PV some
          have e2 := q1 PV some
          rw [e1] at e2; simpa using e2
        subst this
        exact .pv (s3 P μ μ' x hx)
      | succ i => exact v6 hs.2 P μ μ' φ i p' v x (by simpa using hp) (by simpa using hv) hx
  | [], p :: ps, k, r, h => by simp [ldTys] at h
  | t :: ts, [], k, r, h => by simp [ldTys] at h

theorem asTup_ok {n : Nat} {r : PV} {vs : List PV} (h : asTup n r = some vs) : r = .tup vs ∧ vs.length = n := by
  cases r <;> simp [asTup] at h
  obtain ⟨h1, h2⟩ := h; subst h2; exact ⟨rfl, h1⟩

theorem ldRes_ok {ts : List TypeId} {p : PV} {k : V → Option R} {r : R} (h : ldRes E ts p k = some r) :
    ∃ v, (∀ (R' : Type) (k' : V → Option R'), ldRes E ts p k' = k' v) ∧ k v = some r ∧ (∀ id, v.has id = false) ∧ (∀ (P : Program) (μ : Ro) (φ : Nat → Phys) x, RepPV P μ p x → RepV P μ φ v x) ∧
      (ts.all (scalarT E) = true → ∀ (P : Program) (μ μ' : Ro) (φ : Nat → Phys) x, RepPV P μ p x → RepV P μ' φ v x) := by
  unfold ldRes at h
  split at h
  · obtain ⟨vs, hv, hk⟩ := Option.bind_eq_some_iff.1 h
    obtain ⟨rfl, hl⟩ := asTup_ok hv
    have : vs = [] := List.eq_nil_of_length_eq_zero hl
    subst this
    have key : ∀ (P : Program) (μ μ' : Ro) (φ : Nat → Phys) x, RepPV P μ (.tup []) x → RepV P μ' φ (.tup []) x := fun P μ μ' φ x hx => by
      cases hx with
      | tup h1 h2 => exact .tup h1 (by simp)
    exact ⟨.tup [], fun R' k' => by simp [ldRes, hv], hk, by simp [V.has, hasL], fun P μ φ x hx => key P μ μ φ x hx, fun _ => key⟩
  · rename_i t
    obtain ⟨q, q1, q2, q3, _⟩ := ldTy_ok h
    refine ⟨.pv q, fun R' k' => by simp only [ldRes]; rw [q1], q2, by simp, fun P μ φ x hx => .pv (q3 _ _ _ hx), fun hs P μ μ' φ x hx => ?_⟩
    obtain ⟨q', s1, s2, s3⟩ := ldTy_scalar (by simpa using hs) h
    have : q' = q := by
      have e1 := s1 PV some
      have e2 := q1 PV some
      rw [e1] at e2; simpa using e2
    subst this
    exact .pv (s3 P μ μ' x hx)
  · rename_i hne1 hne2
    obtain ⟨vs, hv, hk⟩ := Option.bind_eq_some_iff.1 h
    obtain ⟨rfl, hl⟩ := asTup_ok hv
    obtain ⟨us, u1, u2, u3, u4, u5, u6⟩ := ldTys_ok hk
    have hlist : ((List.range ts.length).map fun j => vs.getD j .bad) = vs := by
      apply List.ext_getElem?
      intro j
      rw [List.getElem?_map]
      by_cases hj : j < ts.length
      · rw [List.getElem?_range hj]
        simp [List.getElem?_eq_getElem (show j < vs.length by omega)]
      · rw [List.getElem?_eq_none (by simp; omega), List.getElem?_eq_none (by omega)]; rfl
    rw [hlist] at u3 u5 u6
    refine ⟨.tup us, fun R' k' => ?_, u2, fun id => by simp [V.has, u4], fun P μ φ x hx => ?_, fun hs P μ μ' φ x hx => ?_⟩
    · unfold ldRes
      split
      · exact absurd rfl hne1
      · exact absurd rfl (hne2 _)
      · rw [hv]; simp only [Option.bind_some]; rw [u1]
    · cases hx with
      | tup h1 h2 =>
        refine .tup (by omega) fun i v y hv hy => ?_
        have hi : i < vs.length := by have := (List.getElem?_eq_some_iff.1 hv).1; omega
        exact u5 P μ φ i _ v y (List.getElem?_eq_getElem hi) hv (h2 i _ y (List.getElem?_eq_getElem hi) hy)
    · cases hx with
      | tup h1 h2 =>
        refine .tup (by omega) fun i v y hv hy => ?_
        have hi : i < vs.length := by have := (List.getElem?_eq_some_iff.1 hv).1; omega
        exact u6 hs P μ μ' φ i _ v y (List.getElem?_eq_getElem hi) hv (h2 i _ y (List.getElem?_eq_getElem hi) hy)

theorem freezeArgs_ok : ∀ {args : List V} {m m' : Mem} {ps : List PV}, freezeArgs m args = some (ps, m') → Lives m m' ∧ ps.length = args.length ∧
    ∀ (P : Program) (G : Nat → Option (List PV)) (w0 : Base) (μ : Ro) (φ : Nat → Phys) (w : World) (X : Nat → Value), RelM P G w0 μ φ m w → (∀ (i : Nat) u, args[i]? = some u → RepV P μ φ u (X i)) →
      ∃ μ', (∀ b o, μ b = some o → μ' b = some o) ∧ RelM P G w0 μ' φ m' w ∧ ∀ (i : Nat) p, ps[i]? = some p → RepPV P μ' p (X i)
  | [], m, m', ps, h => by
    simp only [freezeArgs, Option.some.injEq, Prod.mk.injEq] at h; obtain ⟨rfl, rfl⟩ := h
    exact ⟨.refl _, rfl, fun P G w0 μ φ w X hM _ => ⟨μ, fun _ _ h => h, hM, by simp⟩⟩
  | c :: r, m, m', ps, h => by
    simp only [freezeArgs] at h
    split at h
    · rename_i p m1 h1
      split at h
      · rename_i ps1 m2 h2
        simp only [Option.some.injEq, Prod.mk.injEq] at h; obtain ⟨rfl, rfl⟩ := h
        obtain ⟨a1, a2⟩ := frzVal_ok h1
        obtain ⟨b1, b2, b3⟩ := freezeArgs_ok h2
        refine ⟨a1.trans b1, by simp [b2], fun P G w0 μ φ w X hM hx => ?_⟩
        obtain ⟨μ1, c1, c2, c3⟩ := a2 P G w0 μ φ w (X 0) hM (hx 0 c (by simp))
        obtain ⟨μ2, d1, d2, d3⟩ := b3 P G w0 μ1 φ w (fun i => X (i + 1)) c2 (fun i u hu => (hx (i + 1) u (by simpa using hu)).monoR c1)
        refine ⟨μ2, fun b o h => d1 b o (c1 b o h), d2, fun i q hq => ?_⟩
        cases i with
        | zero => simp at hq; subst hq; exact c3.mono d1
        | succ i => exact d3 i q (by simpa using hq)
      · cases h
    · cases h
theorem frzVal_noMem {m' : Mem} {v : V} {p : PV} (h : frzVal noMem v = some (p, m')) : m' = noMem := by
  have key : ∀ {cs : List V} {m' : Mem} {ps : List PV}, frzSL noMem cs = some (ps, m') → m' = noMem := by
    intro cs
    induction cs with
    | nil => intro m' ps h; simp only [frzSL, Option.some.injEq, Prod.mk.injEq] at h; exact h.2.symm
    | cons c r ih =>
      intro m' ps h
      simp only [frzSL] at h
      split at h
      · rename_i p m1 h1
        have := frzS_noMem h1; subst this
        split at h
        · rename_i ps1 m2 h2
          simp only [Option.some.injEq, Prod.mk.injEq] at h
          rw [← h.2]; exact ih h2
        · cases h
      · cases h
  unfold frzVal at h
  split at h
  · split at h
    · rename_i hf; simp only [Option.some.injEq, Prod.mk.injEq] at h; rw [← h.2]; exact key hf
    · cases h
  · exact frzS_noMem h
theorem freezeArgs_pure : ∀ {args : List V} {m' : Mem} {ps : List PV}, freezeArgs noMem args = some (ps, m') → ps.length = args.length ∧
    ∀ (P : Program) (μ : Ro) (φ : Nat → Phys) (X : Nat → Value), (∀ (i : Nat) u, args[i]? = some u → RepV P μ φ u (X i)) → ∀ (i : Nat) p, ps[i]? = some p → RepPV P μ p (X i)
  | [], m', ps, h => by
    simp only [freezeArgs, Option.some.injEq, Prod.mk.injEq] at h; obtain ⟨rfl, rfl⟩ := h
    exact ⟨rfl, by simp⟩
  | c :: r, m', ps, h => by
    simp only [freezeArgs] at h
    split at h
    · rename_i p m1 h1
      have := frzVal_noMem h1; subst this
      split at h
      · rename_i ps1 m2 h2
        simp only [Option.some.injEq, Prod.mk.injEq] at h; obtain ⟨rfl, rfl⟩ := h
        obtain ⟨b2, b3⟩ := freezeArgs_pure h2
        refine ⟨by simp [b2], fun P μ φ X hx i q hq => ?_⟩
        cases i with
        | zero => simp at hq; subst hq; exact frzVal_pure h1 P μ φ _ (hx 0 c (by simp))
        | succ i => exact b3 P μ φ (fun i => X (i + 1)) (fun i u hu => hx (i + 1) u (by simpa using hu)) i q (by simpa using hq)
      · cases h
    · cases h

theorem RepArr.move {P : Program} {μ μ' : Ro} {φ φ' : Nat → Phys} {w : World} {i j sz : Nat} {et : TypeId} {es : List PV} (h : RepArr P μ φ w i sz et es) (hφ : φ' j = φ i) (hμ : ∀ b o, μ b = some o → μ' b = some o) : RepArr P μ' φ' w j sz et es := by
  unfold RepArr at *
  rw [hφ]
  obtain ⟨h1, h2, h3, h4, h5, h6, h7⟩ := h
  refine ⟨h1, h2, h3, h4, h5, h6, ?_⟩
  split at h7
  · exact h7
  · obtain ⟨c, c1, c2, c3, c4, c5⟩ := h7
    exact ⟨c, c1, c2, c3, fun i e j p x he hp hx => (c4 i e j p x he hp hx).mono hμ, c5⟩

theorem RepArr.scal {P : Program} {ν μ : Ro} {φ : Nat → Phys} {w : World} {i : Nat} {et : TypeId} {es : List PV} (h : RepArr P ν φ w i 1 et es) : RepArr P μ φ w i 1 et (es.map scalP) := by
  unfold RepArr at *
  obtain ⟨h1, h2, h3, h4, h5, h6, h7⟩ := h
  have hc : ∀ p : PV, (scalP p).cells.length = 1 := fun p => by cases p <;> rfl
  refine ⟨by simpa using h1, h2, h3, h4, fun j e he => ?_, h6, ?_⟩
  · simp only [List.getElem?_map, Option.map_eq_some_iff] at he
    obtain ⟨p, _, rfl⟩ := he
    exact hc p
  · split at h7
    · rw [h7.1]; exact ⟨rfl, h7.2⟩
    · obtain ⟨c, c1, c2, c3, c4, c5⟩ := h7
      refine ⟨c, c1, c2, by simpa using c3, fun j e l p x he hp hx => ?_, fun j x hj hx => c5 j x (by simpa using hj) hx⟩
      simp only [List.getElem?_map, Option.map_eq_some_iff] at he
      obtain ⟨q, hq, rfl⟩ := he
      have hl : l = 0 := by have := (List.getElem?_eq_some_iff.1 hp).1; have := hc q; omega
      subst hl
      cases q <;> (simp only [scalP, PV.cells, List.getElem?_cons_zero, Option.some.injEq] at hp; subst hp)
      case int => have := c4 j _ 0 _ x hq rfl hx; cases this with | int h => exact .int h
      case bool => have := c4 j _ 0 _ x hq rfl hx; cases this; exact .bool
      case str => have := c4 j _ 0 _ x hq rfl hx; cases this with | str h => exact .str h
      all_goals exact .bad
mutual
theorem rdL_ok : ∀ (s : FS) (p : PV) (a : List PV), rdL s p = some a → a.length = s.n ∧ ∀ r, bldF s (a ++ r) = (p, r)
  | .raw, p, a, h => by
    simp only [rdL, Option.some.injEq] at h; subst h
    exact ⟨rfl, fun r => rfl⟩
  | .fn g cs, p, a, h => by
    cases p <;> simp only [rdL] at h <;> try (cases h; done)
    split at h
    · rename_i e
      subst e
      obtain ⟨h1, h2⟩ := rdLs_ok cs _ a h
      exact ⟨by simp [FS.n, h1], fun r => by simp [bldF, h2 r]⟩
    · cases h
  | .ptr cs, p, a, h => by
    cases p <;> simp only [rdL] at h <;> try (cases h; done)
    obtain ⟨h1, h2⟩ := rdLs_ok cs _ a h
    exact ⟨by simp [FS.n, h1], fun r => by simp [bldF, h2 r]⟩
theorem rdLs_ok : ∀ (ss : List FS) (ps : List PV) (a : List PV), rdLs ss ps = some a → a.length = nFs ss ∧ ∀ r, bldFs ss (a ++ r) = (ps, r)
  | [], ps, a, h => by
    cases ps with
    | nil => simp only [rdLs, Option.some.injEq] at h; subst h; exact ⟨rfl, fun r => rfl⟩
    | cons p ps => simp [rdLs] at h
  | s :: ss, ps, a, h => by
    cases ps with
    | nil => simp [rdLs] at h
    | cons p ps =>
      simp only [rdLs] at h
      obtain ⟨x, hx, h⟩ := Option.bind_eq_some_iff.1 h
      obtain ⟨y, hy, h⟩ := Option.bind_eq_some_iff.1 h
      simp only [Option.some.injEq] at h; subst h
      obtain ⟨a1, a2⟩ := rdL_ok s p x hx
      obtain ⟨b1, b2⟩ := rdLs_ok ss ps y hy
      refine ⟨by simp [nFs, a1, b1], fun r => ?_⟩
      simp only [bldFs, List.append_assoc, a2, b2]
end
theorem rdL_bld {s : FS} {p : PV} {ls : List PV} (h : rdL s p = some ls) : (bldF s ((List.range s.n).map fun j => ls.getD j .bad)).1 = p := by
  obtain ⟨h1, h2⟩ := rdL_ok s p ls h
  have : ((List.range s.n).map fun j => ls.getD j .bad) = ls := by
    apply List.ext_getElem?
    intro j
    rw [List.getElem?_map]
    by_cases hj : j < s.n
    · rw [List.getElem?_range hj]
      simp [List.getElem?_eq_getElem (show j < ls.length by omega)]
    · rw [List.getElem?_eq_none (by simp; omega), List.getElem?_eq_none (by omega)]; rfl
  rw [this]
  have := h2 []
  rw [List.append_nil] at this
  rw [this]
theorem ldResF_ok {fid : FuncId} {ts : List TypeId} {p : PV} {k : V → Option R} {r : R} (h : ldResF E fid ts p k = some r) :
    ∃ v, (∀ (R' : Type) (k' : V → Option R'), ldResF E fid ts p k' = k' v) ∧ k v = some r ∧ (∀ id, v.has id = false) ∧ (∀ (P : Program) (μ : Ro) (φ : Nat → Phys) x, RepPV P μ p x → RepV P μ φ v x) ∧ True := by
  unfold ldResF at h
  split at h
  · rename_i s hs
    obtain ⟨ls, hl, hk⟩ := Option.bind_eq_some_iff.1 h
    refine ⟨_, fun R' k' => by simp only [ldResF, hs, hl, Option.bind_some], hk, fun id => rfl, fun P μ φ x hx => .pv ?_, trivial⟩
    rw [rdL_bld hl]; exact hx
  · rename_i hs
    obtain ⟨v, v1, v2, v3, v4, _⟩ := ldRes_ok h
    exact ⟨v, fun R' k' => by simp only [ldResF, hs]; exact v1 R' k', v2, v3, v4, trivial⟩
theorem xfunc_ok (hE : EnvOk E) {draw : Bool} {site : Nat} {g : FuncId} {args : List V} {f : Fr} {m : Mem} {k : V → Fr → Mem → Foot → Option R} {r : R} (h : xfunc E draw site g args f m k = some r) :
    (∃ v f' m' ft, k v f' m' ft = some r ∧ (draw = true → f' = f ∧ ∃ wr : Option (Nat × Blk), m' = appM m wr ∧ (∀ id b, wr = some (id, b) → (true, id) ∈ ft) ∧
      ∀ (f2 : Fr) (m2 : Mem), (∀ x ∈ ft, m2 x.2 = m x.2) → ∀ (R' : Type) (k' : V → Fr → Mem → Foot → Option R'), xfunc E true site g args f2 m2 k' = k' v f2 (appM m2 wr) ft) ∧
    ((∀ x ∈ ft, x.1 = false) → f' = f ∧ m' = m) ∧ InlOk E g args f m v f' m') ∨ (draw = false ∧ InlAll E.P E.glob g args f m (fun v f m => k v f m [(true, 0)]) r) := by
  have hX : ∀ (P : Program) (μ : Ro) (φ : Nat → Phys) (xs : Array Value), args.length = xs.size → (∀ (i : Nat) v x, args[i]? = some v → xs[i]? = some x → RepV P μ φ v x) → ∀ (i : Nat) u, args[i]? = some u → xs[i]? = some (xs.getD i undef) ∧ RepV P μ φ u (xs.getD i undef) := by
    intro P μ φ xs hl hr i u hu
    have hlt : i < xs.size := by have := (List.getElem?_eq_some_iff.1 hu).1; omega
    have : xs[i]? = some (xs.getD i undef) := by rw [Array.getElem?_eq_getElem hlt]; simp [Array.getD, hlt]
    exact ⟨this, hr i u _ hu this⟩
  unfold xfunc at h
  split at h
  · rename_i M hctx
    obtain ⟨hfn, hM⟩ := hE.ctx g M hctx
    split at h
    · rename_i fn hg
      split at h
      · rename_i hsc
        split at h
        · rename_i ps hps
          obtain ⟨p, hp, h⟩ := Option.bind_eq_some_iff.1 h
          obtain ⟨v, v1, v2, v3, v4, v5⟩ := ldRes_ok h
          refine .inl ⟨v, f, m, _, v2, fun hd => ⟨rfl, none, rfl, by simp, fun f2 m2 hm2 R' k' => ?_⟩, fun _ => ⟨rfl, rfl⟩, hfn, fun w0 μ φ ρ w xs hR hF hl hr hlv => ?_⟩
          · have hag : frzs (frz m2 frzDepth) args = frzs (frz m frzDepth) args := frzs_congr fun v hv => frz_agree _ fun id hid => hm2 (false, id) (by
              simp only [List.mem_map]; exact ⟨id, mem_readsL.2 ⟨v, hv, hid⟩, rfl⟩)
            have hrd : ((readsL (readsV m2 frzDepth) args).map fun i => (false, i)) = ((readsL (readsV m frzDepth) args).map fun i => (false, i)) := by
              have : readsL (readsV m2 frzDepth) args = readsL (readsV m frzDepth) args := readsL_congr fun v hv => reads_agree _ fun id hid => hm2 (false, id) (by
                simp only [List.mem_map]; exact ⟨id, mem_readsL.2 ⟨v, hv, hid⟩, rfl⟩)
              rw [this]
            simp only [xfunc, hctx, hg]
            rw [if_pos hsc]
            simp only [hag, hps, hp, Option.bind_some, hrd]
            rw [v1]; rfl
          · obtain ⟨p1, p2⟩ := frzs_ok hps
            refine (hM ps p hp w (heapOf w) xs (fun _ _ h => h) (fun g cs hg => (hR.glob g cs hg).mono hR.heap_ro) (by omega) (fun i q x hq hx => ?_)).mono ?_
            · obtain ⟨u, hu, hf⟩ := p2 i q hq
              exact frz_full hR hR.heap_ro (fun _ _ _ _ _ => rfl) _ hf (hr i u x hu hx)
            · rintro e w' ⟨y, rfl, hb, hy⟩
              exact ⟨y, roFresh μ w w', φ, rfl, hR.called hb, hF.lives (roFresh_mono hR w') (.refl _), v5 hsc E.P _ _ φ y hy, fun id hid => by rw [v3] at hid; cases hid⟩
        · cases h
      · rename_i hsc
        split at h
        · rename_i ps m1 hps
          obtain ⟨p, hp, h⟩ := Option.bind_eq_some_iff.1 h
          obtain ⟨v, v1, v2, v3, v4, v5⟩ := ldResF_ok h
          cases draw with
          | true =>
            simp only [if_true] at hps v2
            obtain ⟨q1, q2⟩ := freezeArgs_pure hps
            refine .inl ⟨v, f, m, _, v2, fun _ => ⟨rfl, none, rfl, by simp, fun f2 m2 hm2 R' k' => ?_⟩, fun _ => ⟨rfl, rfl⟩, hfn, fun w0 μ φ ρ w xs hR hF hl hr hlv => ?_⟩
            · simp only [xfunc, hctx, hg]
              rw [if_neg hsc]
              simp only [if_true, hps, hp, Option.bind_some]
              rw [v1]; rfl
            · refine (hM ps p hp w μ xs hR.ro hR.glob (by omega) (fun i q x hq hx => ?_)).mono ?_
              · have := q2 E.P μ φ (fun i => xs.getD i undef) (fun i u hu => (hX E.P μ φ xs hl hr i u hu).2) i q hq
                have hlt : i < xs.size := (Array.getElem?_eq_some_iff.1 hx).1
                have e : xs.getD i undef = x := by rw [Array.getElem?_eq_getElem hlt] at hx; simp only [Option.some.injEq] at hx; simp [Array.getD, hlt, hx]
                rw [← e]; exact this
              · rintro e w' ⟨y, rfl, hb, hy⟩
                exact ⟨y, roFresh μ w w', φ, rfl, hR.called hb, hF.lives (roFresh_mono hR w') (.refl _), v4 E.P _ φ y hy, fun id hid => by rw [v3] at hid; cases hid⟩
          | false =>
            simp only [Bool.false_eq_true, if_false] at hps v2
            obtain ⟨q0, q1, q2⟩ := freezeArgs_ok hps
            refine .inl ⟨v, f, m1, _, v2, fun hd => by (cases hd), fun hq => absurd (hq (true, 0) (by simp)) (by simp), hfn, fun w0 μ φ ρ w xs hR hF hl hr hlv => ?_⟩
            obtain ⟨μ1, r1, r2, r3⟩ := q2 E.P E.glob w0 μ φ w (fun i => xs.getD i undef) hR (fun i u hu => (hX E.P μ φ xs hl hr i u hu).2)
            refine (hM ps p hp w μ1 xs r2.ro r2.glob (by omega) (fun i q x hq hx => ?_)).mono ?_
            · have := r3 i q hq
              have hlt : i < xs.size := (Array.getElem?_eq_some_iff.1 hx).1
              have e : xs.getD i undef = x := by rw [Array.getElem?_eq_getElem hlt] at hx; simp only [Option.some.injEq] at hx; simp [Array.getD, hlt, hx]
              rw [← e]; exact this
            · rintro e w' ⟨y, rfl, hb, hy⟩
              exact ⟨y, roFresh μ1 w w', φ, rfl, r2.called hb, hF.lives (fun b o h => roFresh_mono r2 w' b o (r1 b o h)) q0, v4 E.P _ φ y hy, fun id hid => by rw [v3] at hid; cases hid⟩
        · cases h
    · cases h
  · rename_i hctx
    split at h
    · rename_i M hown
      obtain ⟨hfn, hM⟩ := hE.own g M hown
      split at h
      · rename_i fn hg
        split at h
        · rename_i t ht
          split at h
          · rename_i e hu
            split at h
            · -- scalar elements: the arguments are only read
              rename_i hsc
              obtain ⟨hsc, hone⟩ := hsc
              split at h
              · rename_i ps hps
                obtain ⟨p, hp, h⟩ := Option.bind_eq_some_iff.1 h
                obtain ⟨es, hes, h⟩ := Option.bind_eq_some_iff.1 h
                obtain ⟨f', m', n1, n2, n3, n4, n5⟩ := fresh_ok h
                refine .inl ⟨_, f', m', _, n2, fun hd => ?_, fun hq => absurd (hq (true, site) (by simp)) (by simp), hfn, fun w0 μ φ ρ w xs hR hF hl hr hlv => ?_⟩
                · obtain ⟨d1, d2, d3⟩ := n4 hd
                  subst hd
                  refine ⟨d2, some (site, _), d3, by simp, fun f2 m2 hm2 R' k' => ?_⟩
                  have hag : frzs (frz m2 frzDepth) args = frzs (frz m frzDepth) args := frzs_congr fun v hv => frz_agree _ fun id hid => hm2 (false, id) (by
                    simp only [List.mem_append, List.mem_map]; exact .inr ⟨id, mem_readsL.2 ⟨v, hv, hid⟩, rfl⟩)
                  have hrd : readsL (readsV m2 frzDepth) args = readsL (readsV m frzDepth) args := readsL_congr fun v hv => reads_agree _ fun id hid => hm2 (false, id) (by
                    simp only [List.mem_append, List.mem_map]; exact .inr ⟨id, mem_readsL.2 ⟨v, hv, hid⟩, rfl⟩)
                  simp only [xfunc, hctx, hown, hg, ht, hu]
                  rw [if_pos ⟨hsc, hone⟩]
                  simp only [hag, hps, hp, Option.bind_some, hes, hrd]
                  have hs2 : m2 site = none := by rw [hm2 (true, site) (by simp)]; exact d1
                  simp only [fresh, hs2]; rfl
                · obtain ⟨p1, p2⟩ := frzs_ok hps
                  refine (hM fn t e hg ht hu ps p hp w (heapOf w) xs (fun _ _ h => h) (fun g cs hg => (hR.glob g cs hg).mono hR.heap_ro) (by omega) (fun i q x hq hx => ?_)).mono ?_
                  · obtain ⟨u, hu', hf⟩ := p2 i q hq
                    exact frz_full hR hR.heap_ro (fun _ _ _ _ _ => rfl) _ hf (hr i u x hu' hx)
                  rintro en w' ⟨y, ph, es', rfl, hb, rfl, hgo, hA, hy⟩
                  have hes' : es' = es := by
                    simp only [asSl, if_true, Option.some.injEq] at hes; exact hes
                  subst hes'
                  rw [hone] at hA
                  have hA2 : RepArr E.P (roBut (roFresh μ w w') ph.g) (fun _ => ph) w' 0 1 e (es'.map scalP) := hA.scal
                  have hR2 := hR.calledBut hb hgo
                  have hF2 : FrOk E.P (roBut (roFresh μ w w') ph.g) φ m f ρ := hF.lives (fun b o h => roBut_mono hR w' hgo b o h) (.refl _)
                  have hP : PutOk E.P w0 (roBut (roFresh μ w w') ph.g) φ m w' w' site (.arr (csz E.P e) e (es'.map scalP)) ph := by
                    refine ⟨Bel.refl _ _, hR2.ro, fun _ _ _ _ _ => rfl, fun g hg => ⟨?_, ?_, ?_⟩, fun φ' hp _ => by rw [hone]; exact hA2.move hp (fun _ _ h => h), by simp [Blk.names], fun st h => by cases h⟩
                    · have := hgo g hg; have := hR.below.size; exact Nat.le_trans this (hgo g hg)
                    · simp [roBut, hg]
                    · intro id b' hb' hg'
                      have h1 := (hR.blk id b' hb').glt hg'
                      have h2 := hgo g hg
                      omega
                  obtain ⟨φ', a1, a2, a3⟩ := n5 E.P E.glob w0 _ φ w' w' ρ ph hR2 hF2 hP
                  refine ⟨y, _, φ', rfl, a2, a3, ?_, fun id hid => ?_⟩
                  · cases hy with
                    | osN h => exact .osN (by rw [a1]; exact h)
                    | @os _ g h =>
                      have := RepV.os (P := E.P) (μ := roBut (roFresh μ w w') ph.g) (φ := φ') (id := site) (g := g) (by rw [a1]; exact h)
                      rw [a1] at this; exact this
                  · have hid := Nat.eq_of_beq_eq_true hid; subst hid; simp [n3]
              · cases h
            rename_i hsc
            split at h
            · rename_i ps m1 hps
              obtain ⟨p, hp, h⟩ := Option.bind_eq_some_iff.1 h
              obtain ⟨es, hes, h⟩ := Option.bind_eq_some_iff.1 h
              obtain ⟨f', m', n1, n2, n3, n4, n5⟩ := fresh_ok h
              have fin : ∀ (w0 : Base) (μ μ1 : Ro) (φ : Nat → Phys) (ρ : Nat → Value) (w : World) (xs : Array Value), (∀ b o, μ b = some o → μ1 b = some o) → Lives m (if draw then m else m1) → RelM E.P E.glob w0 μ1 φ (if draw then m else m1) w → FrOk E.P μ φ m f ρ → ps.length = xs.size → (∀ (i : Nat) p x, ps[i]? = some p → xs[i]? = some x → RepPV E.P μ1 p x) →
                  Calls E.P g xs w fun e w' => ∃ y μ' φ', e = .returned y ∧ RelM E.P E.glob w0 μ' φ' m' w' ∧ FrOk E.P μ' φ' m' f' ρ ∧ RepV E.P μ' φ' (.os site) y ∧ ∀ id, (V.os site).has id = true → (m' id).isSome = true := by
                intro w0 μ μ1 φ ρ w xs hle hlv hR hF hl hr
                refine (hM fn t e hg ht hu ps p hp w μ1 xs hR.ro hR.glob hl hr).mono ?_
                rintro en w' ⟨y, ph, es', rfl, hb, rfl, hgo, hA, hy⟩
                have hes' : es' = es := by
                  simp only [asSl, if_true, Option.some.injEq] at hes; exact hes
                subst hes'
                have hR2 := hR.calledBut hb hgo
                have hF2 : FrOk E.P (roBut (roFresh μ1 w w') ph.g) φ (if draw then m else m1) f ρ := hF.lives (fun b o h => roBut_mono hR w' hgo b o (hle b o h)) hlv
                have hP : PutOk E.P w0 (roBut (roFresh μ1 w w') ph.g) φ (if draw then m else m1) w' w' site (.arr (csz E.P e) e es') ph := by
                  refine ⟨Bel.refl _ _, hR2.ro, fun _ _ _ _ _ => rfl, fun g hg => ⟨?_, ?_, ?_⟩, fun φ' hp _ => hA.move hp (fun _ _ h => h), by simp [Blk.names], fun st h => by cases h⟩
                  · have := hgo g hg; have := hR.below.size; exact Nat.le_trans this (hgo g hg)
                  · simp [roBut, hg]
                  · intro id b' hb' hg'
                    have h1 := (hR.blk id b' hb').glt hg'
                    have h2 := hgo g hg
                    omega
                obtain ⟨φ', a1, a2, a3⟩ := n5 E.P E.glob w0 _ φ w' w' ρ ph hR2 hF2 hP
                refine ⟨y, _, φ', rfl, a2, a3, ?_, fun id hid => ?_⟩
                · cases hy with
                  | osN h => exact .osN (by rw [a1]; exact h)
                  | @os _ g h =>
                    have := RepV.os (P := E.P) (μ := roBut (roFresh μ1 w w') ph.g) (φ := φ') (id := site) (g := g) (by rw [a1]; exact h)
                    rw [a1] at this; exact this
                · have hid := Nat.eq_of_beq_eq_true hid; subst hid; simp [n3]
              cases draw with
              | true =>
                simp only [if_true] at hps n2 fin n4
                obtain ⟨q1, q2⟩ := freezeArgs_pure hps
                obtain ⟨d1, d2, d3⟩ := n4 trivial
                refine .inl ⟨_, f', m', _, n2, fun _ => ⟨d2, some (site, _), d3, by simp, fun f2 m2 hm2 R' k' => ?_⟩, fun hq => absurd (hq (true, site) (by simp)) (by simp), hfn, fun w0 μ φ ρ w xs hR hF hl hr hlv => ?_⟩
                · simp only [xfunc, hctx, hown, hg, ht, hu]
                  rw [if_neg hsc]
                  simp only [if_true, hps, hp, Option.bind_some, hes]
                  have hs2 : m2 site = none := by rw [hm2 (true, site) (by simp)]; exact d1
                  simp only [fresh, hs2]; rfl
                · refine fin w0 μ μ φ ρ w xs (fun _ _ h => h) (.refl _) hR hF (by omega) fun i q x hq hx => ?_
                  have := q2 E.P μ φ (fun i => xs.getD i undef) (fun i u hu => (hX E.P μ φ xs hl hr i u hu).2) i q hq
                  have hlt : i < xs.size := (Array.getElem?_eq_some_iff.1 hx).1
                  have e : xs.getD i undef = x := by rw [Array.getElem?_eq_getElem hlt] at hx; simp only [Option.some.injEq] at hx; simp [Array.getD, hlt, hx]
                  rw [← e]; exact this
              | false =>
                simp only [Bool.false_eq_true, if_false] at hps n2 fin n4
                obtain ⟨q0, q1, q2⟩ := freezeArgs_ok hps
                refine .inl ⟨_, f', m', _, n2, fun hd => by (cases hd), fun hq => absurd (hq (true, site) (by simp)) (by simp), hfn, fun w0 μ φ ρ w xs hR hF hl hr hlv => ?_⟩
                obtain ⟨μ1, r1, r2, r3⟩ := q2 E.P E.glob w0 μ φ w (fun i => xs.getD i undef) hR (fun i u hu => (hX E.P μ φ xs hl hr i u hu).2)
                refine fin w0 μ μ1 φ ρ w xs r1 q0 r2 hF (by omega) fun i q x hq hx => ?_
                have := r3 i q hq
                have hlt : i < xs.size := (Array.getElem?_eq_some_iff.1 hx).1
                have e : xs.getD i undef = x := by rw [Array.getElem?_eq_getElem hlt] at hx; simp only [Option.some.injEq] at hx; simp [Array.getD, hlt, hx]
                rw [← e]; exact this
            · cases h
          · cases h
        · cases h
      · cases h
    · split at h
      · cases h
      · rename_i hd
        exact .inr ⟨by simpa using hd, hE.inl _ _ _ _ _ _ _ _ h⟩
end
end Go.Ab
