/- Regions: what the evaluator says of a region holds of the model, in whatever order it is carried out. -/
import Derived.Test.YtinbhofpofcmeaaGreatDoorAbP5
set_option linter.unusedVariables false
namespace Go.Ab
open Go.RowKit (Below)
section
variable {E : Env} {ops : Array Oper} {w0 : Base}

theorem looks_tmp {o : Oper} {t : Nat} (h : .tmp t ∈ o.op.operands) : t ∈ o.looksAt ops := by
  unfold Oper.looksAt
  refine List.mem_append.2 (.inl (List.mem_filterMap.2 ⟨.tmp t, by simpa using h, rfl⟩))
theorem looks_guard {o : Oper} {g : Nat × Bool} {t : Nat} (hg : o.guard = some g) (h : (ops[g.1]?).bind (·.dst) = some t) : t ∈ o.looksAt ops := by
  unfold Oper.looksAt
  rw [hg]
  refine List.mem_append.2 (.inr ?_)
  show t ∈ ((ops[g.1]?).bind (·.dst)).toList
  rw [h]; simp
theorem opd_looks {o : Oper} {f F : Fr} (h : ∀ t ∈ o.looksAt ops, f t = F t) : ∀ x ∈ o.op.operands, opd E f x = opd E F x := by
  intro x hx
  cases x with
  | tmp t => simp only [opd]; rw [h t (looks_tmp hx)]
  | _ => rfl

theorem wanted_held {o : Oper} {A : List (Nat × Bool)} {f f2 : Fr} {m2 : Mem} {μ : Ro} {φ : Nat → Phys} {a : Act} {w : World} (hg : guardOf o A = none) (hA : Held E.fn.ntmps ops A f) (hR : Rel E.P E.glob E.fn.ntmps w0 μ φ f2 m2 a w) (hf : ∀ t ∈ o.looksAt ops, f2 t = f t) : Region.wanted o (yielded ops a.tmps) = true := by
  unfold guardOf at hg
  unfold Region.wanted
  split at hg
  · rename_i hgd; simp [hgd]
  · rename_i g hgd
    split at hg
    · rename_i hmem
      obtain ⟨t, h1, h0, h2⟩ := hA g (by simpa using hmem)
      have h3 := hR.fr t
      rw [slots_lt h0, hf t (looks_guard hgd h1), h2] at h3
      simp only [hgd]
      rw [yielded_of h1 (rep_bool h3)]
      simp
    · cases hg
theorem recOk_of (hE : EnvOk E) {i : Nat} {o : Oper} {v : V} {wr : Option (Nat × Blk)} {ft : Foot} {f : Fr} {m : Mem} {A : List (Nat × Bool)} (hg : guardOf o A = none)
    (hA : Held E.fn.ntmps ops A f) (hd : dstOk E o = true)
    (hn : ∀ (f2 : Fr) (m2 : Mem), (∀ x ∈ o.op.operands, opd E f2 x = opd E f x) → (∀ x ∈ ft, m2 x.2 = m x.2) → ∀ (R' : Type) (k' : V → Fr → Mem → Foot → Option R'), xop E true (siteOf E o.dst) o f2 m2 k' = k' v f2 (appM m2 wr) ft) :
    RecOk E ops w0 ⟨i, o, v, wr, ft, none⟩ f m := by
  intro f2 m2 hf hm μ φ a w K Q hR hK
  have hw : Region.wanted o (yielded ops a.tmps) = true := by
    unfold guardOf at hg
    unfold Region.wanted
    split at hg
    · rename_i hgd; simp [hgd]
    · rename_i g hgd
      split at hg
      · rename_i hmem
        obtain ⟨t, h1, h0, h2⟩ := hA g (by simpa using hmem)
        have h3 := hR.fr t
        rw [slots_lt h0, hf t (looks_guard hgd h1), h2] at h3
        simp only [hgd]
        rw [yielded_of h1 (rep_bool h3)]
        simp
      · cases hg
  simp only at hf hm hK ⊢
  rw [if_pos hw]
  exact fun rd => (op_at hE (.inl rfl) (hn f2 m2 (opd_looks hf) hm)).soundR (xop_defer (hn f2 m2 (opd_looks hf) hm Unit fun _ _ _ _ => some ())) rd w0 μ φ a w K Q hR fun y w' μ' φ' hle hM hF hv hl => hK _ _ _ _ (hR.put hle (dstOk_lt hd) hM hF hv hl)

theorem recOk_skip {i : Nat} {o : Oper} {f : Fr} {m : Mem} (hd : dstOk E o = true) (hdead : Dead ops f o) : RecOk E ops w0 ⟨i, o, .tup [], none, [], none⟩ f m := by
  intro f2 m2 hf hm μ φ a w K Q hR hK
  simp only at hf hm hK ⊢
  have hdead' : Dead ops f2 o := by
    obtain ⟨g, hg, ht⟩ := hdead
    exact ⟨g, hg, fun t h => by rw [hf t (looks_guard hg h)]; exact ht t h⟩
  rw [dead_unwanted hR hdead']
  simp only [Bool.false_eq_true, if_false]
  exact hK _ _ _ _ (hR.put (fun _ _ h => h) (dstOk_lt hd) hR.toRelM hR.frOk rep_undef' (fun id hid => by simp [V.has, hasL] at hid))

def skipRec (x : Nat × Oper) : Rec := ⟨x.1, x.2, .tup [], none, [], none⟩
theorem recs_skip {m : Mem} : ∀ (l : List (Nat × Oper)) (F : Fr), (∀ x ∈ l, dstOk E x.2 = true) → (∀ (pre post : List (Nat × Oper)) (x : Nat × Oper), l = pre ++ x :: post → Dead ops (skipAll F pre) x.2) →
    RecsOk E ops w0 F m (l.map skipRec) ∧ fAll F (l.map skipRec) = skipAll F l
  | [], F, _, _ => ⟨trivial, rfl⟩
  | x :: r, F, hd, hdead => by
    obtain ⟨h1, h2⟩ := recs_skip (m := m) r (frPut F x.2.dst (.tup [])) (fun y hy => hd y (by simp [hy])) (fun pre post y h => by
      have := hdead (x :: pre) post y (by rw [h]; rfl)
      rwa [skipAll] at this)
    exact ⟨⟨recOk_skip (hd x (by simp)) (hdead [] r x rfl), by simp [skipRec], h1⟩, h2⟩

theorem mAll_none {m : Mem} : ∀ {l : List Rec}, (∀ q ∈ l, q.wr = none ∧ q.kl = none) → mAll m l = m
  | [], _ => rfl
  | r :: l, h => by
    obtain ⟨h1, h2⟩ := h r (by simp)
    have : r.ms m = m := by unfold Rec.ms; rw [h1, h2]; rfl
    rw [mAll, this]; exact mAll_none fun q hq => h q (by simp [hq])

theorem RecsOk.wr : ∀ {l : List Rec} {f : Fr} {m : Mem}, RecsOk E ops w0 f m l → ∀ q ∈ l, ∀ id b, q.wr = some (id, b) → (true, id) ∈ q.ft
  | [], _, _, _, q, hq => by cases hq
  | r :: l, f, m, h, q, hq => by
    rcases List.mem_cons.1 hq with rfl | hq
    · exact h.2.1
    · exact RecsOk.wr h.2.2 q hq
def MemOrd (q r : Rec) : Prop :=
  reach ops 4 r.o q.i = true ∨ ((∀ id b, q.wr = some (id, b) → ∀ x ∈ r.ft, x.2 ≠ id) ∧ ∀ id b, r.wr = some (id, b) → ∀ x ∈ q.ft, x.2 ≠ id)

theorem okLog_ok {o : Oper} {w : Bool} {id : Nat} : ∀ {lg : Log}, okLog ops o w id lg = true → ∀ x ∈ lg, id ≠ x.2.2 ∨ (w = false ∧ x.2.1 = false) ∨ reach ops 4 o x.1 = true
  | [], _, x, hx => by cases hx
  | (j, w', id') :: lg, h, x, hx => by
    simp only [okLog, Bool.and_eq_true] at h
    rcases List.mem_cons.1 hx with rfl | hx
    · have h1 := h.1
      simp only [Bool.or_eq_true, Bool.not_eq_true', Bool.and_eq_true] at h1
      rcases h1 with (h1 | h1) | h1
      · exact .inl fun e => by subst e; simp [Nat.beq_refl] at h1
      · exact .inr (.inl h1)
      · exact .inr (.inr h1)
    · exact okLog_ok h.2 x hx
theorem okFoot_ok {o : Oper} {lg : Log} : ∀ {ft : Foot}, okFoot ops o lg ft = true → ∀ y ∈ ft, ∀ x ∈ lg, y.2 ≠ x.2.2 ∨ (y.1 = false ∧ x.2.1 = false) ∨ reach ops 4 o x.1 = true
  | [], _, y, hy => by cases hy
  | (w, id) :: ft, h, y, hy => by
    simp only [okFoot, Bool.and_eq_true] at h
    rcases List.mem_cons.1 hy with rfl | hy
    · exact okLog_ok h.1
    · exact okFoot_ok h.2 y hy

theorem okNames_ok {o : Oper} {id : Nat} : ∀ {lg : Log}, okNames ops o id lg = true → ∀ x ∈ lg, x.2.2 = nameTag id → reach ops 4 o x.1 = true
  | [], _, x, hx => by cases hx
  | (j, w, n) :: lg, h, x, hx => by
    simp only [okNames, Bool.and_eq_true, Bool.or_eq_true, Bool.not_eq_true'] at h
    intro he
    rcases List.mem_cons.1 hx with rfl | hx
    · rcases h.1 with h1 | h1
      · simp only at he
        rw [he, Nat.beq_refl] at h1; cases h1
      · exact h1
    · exact okNames_ok h.2 x hx he
mutual
theorem ids_has {id : Nat} : ∀ (v : V), v.has id = true → id ∈ v.ids
  | .agg cs, h => idsL_has cs (by simpa only [V.has] using h)
  | .tup cs, h => idsL_has cs (by simpa only [V.has] using h)
  | .fn _ cs, h => idsL_has cs (by simpa only [V.has] using h)
  | .os j, h => by have := Nat.eq_of_beq_eq_true h; subst this; simp [V.ids]
  | .osub j _ _, h => by have := Nat.eq_of_beq_eq_true h; subst this; simp [V.ids]
  | .oe j _ _, h => by have := Nat.eq_of_beq_eq_true h; subst this; simp [V.ids]
  | .om j, h => by have := Nat.eq_of_beq_eq_true h; subst this; simp [V.ids]
  | .op j _, h => by have := Nat.eq_of_beq_eq_true h; subst this; simp [V.ids]
  | .yl j, h => by have := Nat.eq_of_beq_eq_true h; subst this; simp [V.ids]
  | .pv _, h => by cases h
  | .nils, h => by cases h
  | .top, h => by cases h
theorem idsL_has {id : Nat} : ∀ (cs : List V), hasL id cs = true → id ∈ idsL cs
  | [], h => by cases h
  | v :: r, h => by
    simp only [hasL, Bool.or_eq_true] at h
    simp only [idsL, List.mem_append]
    rcases h with h | h
    · exact .inl (ids_has v h)
    · exact .inr (idsL_has r h)
end
theorem blkIds_names {b : Blk} {id : Nat} (h : b.names id = true) : id ∈ blkIds (some b) := by
  cases b with
  | box cs => exact idsL_has cs h
  | _ => cases h
theorem namesB_mem {m m' : Mem} {id : Nat} : ∀ {ft : Foot} {x : Bool × Nat}, x ∈ ft → (id ∈ blkIds (m x.2) ∨ id ∈ blkIds (m' x.2)) → id ∈ namesB m m' ft
  | y :: ft, x, hx, h => by
    simp only [namesB, List.mem_append]
    rcases List.mem_cons.1 hx with rfl | hx
    · exact .inl h
    · exact .inr (namesB_mem hx h)
theorem clean_of {id i : Nat} {o : Oper} {v : V} {wr : Option (Nat × Blk)} {ft : Foot} {f F : Fr} {m : Mem} (hseen : ∀ t ∈ o.looksAt ops, f t = F t) (hwr : ∀ j b, wr = some (j, b) → (true, j) ∈ ft) (hn : id ∉ namesOf ops o f m (appM m wr) v ft) (hft : ∀ x ∈ ft, x.2 ≠ id) :
    Clean ops id ⟨i, o, v, wr, ft, none⟩ F m := by
  simp only [namesOf, List.mem_append, not_or] at hn
  obtain ⟨⟨h1, h2⟩, h3⟩ := hn
  refine ⟨fun t ht => ?_, ?_, fun x hx => ⟨hft x hx, fun b hb => ?_⟩, fun j b hb => ⟨hft _ (hwr j b hb), ?_⟩⟩
  · cases e : (F t).has id with
    | false => rfl
    | true => exact absurd (idsL_has _ (hasL_iff.2 ⟨f t, List.mem_map.2 ⟨t, ht, rfl⟩, by rw [hseen t ht]; exact e⟩)) h1
  · cases e : v.has id with
    | false => rfl
    | true => exact absurd (ids_has _ e) h2
  · cases e : b.names id with
    | false => rfl
    | true => exact absurd (namesB_mem hx (.inl (by rw [hb]; exact blkIds_names e))) h3
  · cases e : b.names id with
    | false => rfl
    | true => exact absurd (namesB_mem (hwr j b hb) (.inr (by have hb' : wr = some (j, b) := hb; simp only; rw [hb', appM_eq]; exact blkIds_names e))) h3
theorem appInfo_ok {R : Type} {site : Nat} {o : Oper} {f : Fr} {m : Mem} {id : Nat} {rd : Foot} (h : appInfo E f m o = some (id, rd)) {k : V → Fr → Mem → Foot → Option R} {r : R} (hx : xop E false site o f m k = some r) :
    (∀ x ∈ rd, x.1 = false) ∧ ∃ blk, k (.os id) (killF id f) (memSet (memDel (killM id m) id) id blk) [(true, 0)] = some r ∧
    ∀ (f2 : Fr) (m2 : Mem), (∀ x ∈ o.op.operands, opd E f2 x = opd E f x) → (∀ x ∈ (true, id) :: rd, m2 x.2 = m x.2) → ∀ (R' : Type) (k' : V → Fr → Mem → Foot → Option R'), xop E false site o f2 m2 k' = k' (.os id) (killF id f2) (memSet (memDel (killM id m2) id) id blk) [(true, 0)] := by
  obtain ⟨dst, op, type, pos, after, guard⟩ := o
  unfold appInfo at h
  simp only at h
  split at h
  · rename_i c
    obtain ⟨callee, args, argTypes⟩ := c
    simp only at h
    split at h
    · rename_i id' x t t' hargs hty
      split at h
      · rename_i e hu
        split at h
        · rename_i new rd' hel
          split at h
          · cases h
          · rename_i hxh
            simp only [Option.some.injEq, Prod.mk.injEq] at h
            obtain ⟨rfl, rfl⟩ := h
            obtain ⟨he1, he2, _⟩ := elemsV_ok hel
            have hdel : ∀ m2 : Mem, memDel (killM id' m2) id' id' = none := fun m2 => by simp [memDel, Nat.beq_refl]
            have main : ∀ (f2 : Fr) (m2 : Mem), args.toList.map (opd E f2) = [.os id', x] → m2 id' = m id' → elemsV m2 (csz E.P e) x = some (new, rd') → ∀ (R' : Type) (k' : V → Fr → Mem → Foot → Option R'),
                xop E false site ⟨dst, .call ⟨.builtin .append, args, argTypes⟩, type, pos, after, guard⟩ f2 m2 k' =
                  if !(decide (t' = t)) then none else if (zeroCellsV E e).isNone then none else match m id' with
                    | some (.arr sz et es) => if et = e ∧ sz = csz E.P e ∧ x.has id' = false then (if (es ++ new).length * bsz E.P e ≤ roomBound ∧ 0 < bsz E.P e then k' (.os id') (killF id' f2) (memSet (memDel (killM id' m2) id') id' (.arr sz e (es ++ new))) [(true, 0)] else none) else none
                    | _ => none := by
              intro f2 m2 h1 h2 h3 R' k'
              simp only [xop, h1, hty, xappend, Bool.false_or, hu, h3, h2]
              split
              · rfl
              · split
                · rfl
                · split
                  · rename_i sz et es hmm
                    simp only [fresh, hdel, hmm]
                  · rename_i hne
                    split
                    · rename_i sz et es hm2
                      exact absurd hm2 (hne sz et es)
                    · rfl
            rw [main f m hargs rfl hel] at hx
            refine ⟨he2, ?_⟩
            split at hx
            · cases hx
            · rename_i hc1
              split at hx
              · cases hx
              · rename_i hc2
                split at hx
                · rename_i sz et es hm
                  split at hx
                  · rename_i hc3
                    split at hx
                    · rename_i hc4
                      refine ⟨_, hx, fun f2 m2 hf hm2 R' k' => ?_⟩
                      have ha : args.toList.map (opd E f2) = [.os id', x] := by
                        rw [← hargs]
                        exact map_congr_opd fun y hy => hf y (by simp only [Op.operands, Call.operands]; simp [Array.mem_toList_iff.1 hy])
                      rw [main f2 m2 ha (hm2 (true, id') (by simp)) (he1 m2 fun y hy => hm2 y (by simp [hy])) R' k']
                      rw [if_neg hc1, if_neg hc2, hm]
                      simp only
                      rw [if_pos hc3, if_pos hc4]
                    · cases hx
                  · cases hx
                · cases hx
        · cases h
      · cases h
    · cases h
  · cases h
theorem FLe.kill {f F : Fr} (h : FLe f F) (id : Nat) : FLe (killF id f) (killF id F) := fun t => by
  rcases h t with e | e
  · exact .inl (by simp only [killF, e])
  · exact .inr (by simp only [killF, e]; rfl)

theorem Held.kill {nt : Nat} {A : List (Nat × Bool)} {f : Fr} (h : Held nt ops A f) (id : Nat) : Held nt ops A (killF id f) := by
  intro g hg
  obtain ⟨t, h1, h0, h2⟩ := h g hg
  exact ⟨t, h1, h0, by simp only [killF, h2]; rfl⟩
theorem isApp_of {f : Fr} {m : Mem} {o : Oper} {x : Nat × Foot} (h : appInfo E f m o = some x) : isApp o = true := by
  obtain ⟨dst, op, type, pos, after, guard⟩ := o
  unfold appInfo at h
  simp only at h
  split at h
  · rename_i c
    obtain ⟨callee, args, argTypes⟩ := c
    simp only at h
    split at h
    · rfl
    · cases h
  · cases h
theorem recOk_app (hE : EnvOk E) (hY : YlOk E.P E.glob E.fn.ntmps E.yl w0) {i : Nat} {o : Oper} {f F : Fr} {m : Mem} {A : List (Nat × Bool)} {id : Nat} {rd : Foot} {blk : Blk} (hg : guardOf o A = none) (hA : Held E.fn.ntmps ops A F) (hd : dstOk E o = true) (hop : ∀ x ∈ o.op.operands, opd E f x = opd E F x)
    (hn : ∀ (f2 : Fr) (m2 : Mem), (∀ x ∈ o.op.operands, opd E f2 x = opd E f x) → (∀ x ∈ (true, id) :: rd, m2 x.2 = m x.2) → ∀ (R' : Type) (k' : V → Fr → Mem → Foot → Option R'), xop E false (siteOf E o.dst) o f2 m2 k' = k' (.os id) (killF id f2) (memSet (memDel (killM id m2) id) id blk) [(true, 0)]) :
    RecOk E ops w0 ⟨i, o, .os id, some (id, blk), (true, id) :: rd, some id⟩ F m := by
  intro f2 m2 hf hm μ φ a w K Q hR hK
  have hw : Region.wanted o (yielded ops a.tmps) = true := wanted_held hg hA hR hf
  simp only at hf hm hK ⊢
  rw [if_pos hw]
  have hx := hn f2 m2 (fun x hx => by rw [opd_looks hf x hx, hop x hx]) hm (V × Fr × Mem) fun v f m _ => some (v, f, m)
  rcases xop_ok hE hx with ⟨v, f', m', ft, h1, h2⟩ | ⟨_, h2⟩
  · simp only [Option.some.injEq, Prod.mk.injEq] at h1
    obtain ⟨rfl, rfl, rfl⟩ := h1
    exact fun rd => h2.soundR (xop_defer hx) rd w0 μ φ a w K Q hR fun y w' μ' φ' hle hM hF hv hl => hK _ _ _ _ (hR.put hle (dstOk_lt hd) hM hF hv hl)
  · refine fun rd => OpIn.soundR h2 rd w0 μ φ a w K Q hY hR fun v f' m' y w' μ' φ' h1 hle hM hF hv hl => ?_
    simp only [Option.some.injEq, Prod.mk.injEq] at h1
    obtain ⟨rfl, rfl, rfl⟩ := h1
    exact hK _ _ _ _ (hR.put hle (dstOk_lt hd) hM hF hv hl)
structure RecsFit (ops : Array Oper) (mode : Nat) (F : Fr) (m : Mem) (lg : Log) (recs : List Rec) : Prop where
  one : mode = 1 → ∀ q ∈ recs, q.wr = none ∧ q.kl = none
  ord : mode = 2 → recs.Pairwise (MemOrd (ops := ops))
  log : mode = 2 → ∀ q ∈ recs, ∀ y ∈ q.ft, ∀ x ∈ lg, y.2 ≠ x.2.2 ∨ (y.1 = false ∧ x.2.1 = false) ∨ reach ops 4 q.o x.1 = true
  kl : recs.Pairwise fun q r => q.kl ≠ none → reach ops 4 r.o q.i = true
  cln : CleanOk ops F m recs
  nam : ∀ q ∈ recs, ∀ id, q.kl = some id → mode = 2 ∧ ops.toList.any isApp = true ∧ (true, id) ∈ q.ft ∧ ∀ x ∈ lg, x.2.2 = nameTag id → reach ops 4 q.o x.1 = true

theorem CleanOk.none : ∀ {l : List Rec} {f : Fr} {m : Mem}, (∀ q ∈ l, q.kl = none) → CleanOk ops f m l
  | [], _, _, _ => trivial
  | r :: l, f, m, h => ⟨fun q hq id hid => (by rw [h q (by simp [hq])] at hid; cases hid), CleanOk.none fun q hq => h q (by simp [hq])⟩

theorem evalOps_recs (hE : EnvOk E) (hY : YlOk E.P E.glob E.fn.ntmps E.yl w0) {mode : Nat} (hmode : mode = 1 ∨ mode = 2) : ∀ (fuel : Nat) {R : Type} {A : List (Nat × Bool)} {l : List (Nat × Oper)} {f : Fr} {m : Mem} {lg : Log} {k : Fr → Mem → Option R} {r : R}, evalOps E ops mode fuel R A l f m lg k = some r →
    (∀ x ∈ l, ops[x.1]? = some x.2) → (mode = 1 → ∀ x ∈ l, readKind x.2 = true) → Away ops A l → ∀ F : Fr, FLe f F → Held E.fn.ntmps ops A F → (∀ x ∈ l, ∀ t ∈ x.2.looksAt ops, f t = F t) →
    ∃ (recs : List Rec) (f' : Fr), k f' (mAll m recs) = some r ∧ FLe f' (fAll F recs) ∧ recs.map (fun r => (r.i, r.o)) = l ∧ RecsOk E ops w0 F m recs ∧ RecsFit ops mode F m lg recs
  | 0, _, _, _, _, _, _, _, _, h, _, _, _, _, _, _, _ => by simp [evalOps] at h
  | fuel + 1, R, A, [], f, m, lg, k, r, h, _, _, _, F, hF, _, _ => by
    simp only [evalOps] at h
    exact ⟨[], f, h, hF, rfl, trivial, by simp, fun _ => .nil, by simp, .nil, trivial, by simp⟩
  | fuel + 1, R, A, (i, o) :: rest, f, m, lg, k, r, h, hl, hrk, haw, F, hF, hA, hseen => by
    have hm1 : (Nat.beq mode 1 || Nat.beq mode 2) = true := by rcases hmode with rfl | rfl <;> rfl
    simp only [evalOps, hm1] at h
    split at h
    · rename_i hg
      split at h
      · rename_i hd
        have hopd : ∀ x ∈ o.op.operands, opd E f x = opd E F x := opd_looks (hseen (i, o) (by simp))
        split at h
        · -- 'append' in place
          rename_i id rd happ
          have hmode2 : mode = 2 := by
            rcases hmode with rfl | rfl
            · cases happ
            · rfl
          subst hmode2
          have happ : appInfo E f m o = some (id, rd) := happ
          split at h
          · rename_i hck
            simp only [Bool.and_eq_true, List.all_eq_true] at hck
            obtain ⟨⟨hck1, hck2⟩, hck3⟩ := hck
            obtain ⟨hrd, blk, hk, hn⟩ := appInfo_ok happ h
            obtain ⟨recs, f', c1, c2, c3, c4, c5⟩ := evalOps_recs hE hY (.inr rfl) fuel hk (fun x hx => hl x (by simp [hx])) (fun hm => by cases hm) (fun x hx => haw x (by simp [hx])) (frPut (killF id F) o.dst (.os id)) ((hF.kill id).put _ _) (Held.put (hA.kill id) fun g hgm t ht => haw (i, o) (by simp) g hgm t ht) (fun x hx t ht => by
              by_cases e : o.dst = some t
              · rw [e, frPut_eq, frPut_eq]
              · rw [frPut_ne e, frPut_ne e]; simp only [killF, hseen x (by simp [hx]) t ht])
            have hin : ∀ q ∈ recs, reach ops 4 q.o i = true := fun q hq => hck3 (q.i, q.o) (by rw [← c3]; exact List.mem_map.2 ⟨q, hq, rfl⟩)
            have hany : ops.toList.any isApp = true := List.any_eq_true.2 ⟨o, List.mem_of_getElem? (by rw [Array.getElem?_toList]; exact hl (i, o) (by simp)), isApp_of happ⟩
            refine ⟨⟨i, o, .os id, some (id, blk), (true, id) :: rd, some id⟩ :: recs, f', c1, c2, by simp [c3], ⟨recOk_app hE hY hg hA hd hopd hn, fun j b hb => by simp at hb; simp [hb.1], c4⟩, ?_⟩
            refine ⟨fun hm => (by cases hm), fun hm => List.pairwise_cons.2 ⟨fun q hq => .inl (hin q hq), c5.ord hm⟩, fun hm q hq => ?_, List.pairwise_cons.2 ⟨fun q hq _ => hin q hq, c5.kl⟩, ⟨fun q hq id' _ => .inl (hin q hq), c5.cln⟩, fun q hq id' hid => ?_⟩
            · rcases List.mem_cons.1 hq with rfl | hq
              · exact okFoot_ok hck1
              · exact fun y hy x hx => c5.log hm q hq y hy x (List.mem_append.2 (.inr hx))
            · rcases List.mem_cons.1 hq with rfl | hq
              · simp only [Option.some.injEq] at hid
                subst hid
                exact ⟨rfl, hany, by simp, okNames_ok hck2⟩
              · obtain ⟨g1, g2, g3, g4⟩ := c5.nam q hq id' hid
                exact ⟨g1, g2, g3, fun x hx => g4 x (List.mem_append.2 (.inr hx))⟩
          · cases h
        · rcases xop_ok hE h with ⟨v, f1, m1, ft, hk, hop⟩ | ⟨hdr, _⟩
          rotate_left
          · cases hdr
          obtain ⟨hf1, wr, hm1', hwr, hn⟩ := hop.drawn rfl
          subst hf1
          -- the record
          have hn' : ∀ (f2 : Fr) (m2 : Mem), (∀ x ∈ o.op.operands, opd E f2 x = opd E F x) → (∀ x ∈ ft, m2 x.2 = m x.2) → ∀ (R' : Type) (k' : V → Fr → Mem → Foot → Option R'), xop E true (siteOf E o.dst) o f2 m2 k' = k' v f2 (appM m2 wr) ft :=
            fun f2 m2 hf => hn f2 m2 fun x hx => by rw [hf x hx, hopd x hx]
          -- the next step
          have step : ∀ (wr' : Option (Nat × Blk)) (lg' : Log), appM m wr' = m1 → (mode = 1 → wr' = none) → (∀ id b, wr' = some (id, b) → (true, id) ∈ ft) → RecOk E ops w0 ⟨i, o, v, wr', ft, none⟩ F m → evalOps E ops mode fuel R A rest (frPut f1 o.dst v) m1 lg' k = some r →
              (mode = 2 → lg' = (bif ops.toList.any isApp then (namesOf ops o f1 m m1 v ft).map (fun n => (i, false, nameTag n)) else []) ++ (ft.map (fun x => (i, x)) ++ lg) ∧ okFoot ops o lg ft = true) →
              ∃ (recs : List Rec) (f' : Fr), k f' (mAll m recs) = some r ∧ FLe f' (fAll F recs) ∧ recs.map (fun r => (r.i, r.o)) = (i, o) :: rest ∧ RecsOk E ops w0 F m recs ∧ RecsFit ops mode F m lg recs := by
            intro wr' lg' hwm hw1 hw2 hrok hev hlg
            obtain ⟨recs, f', c1, c2, c3, c4, c5⟩ := evalOps_recs hE hY hmode fuel hev (fun x hx => hl x (by simp [hx])) (fun hm x hx => hrk hm x (by simp [hx])) (fun x hx => haw x (by simp [hx])) (frPut F o.dst v) (hF.put _ _) (Held.put hA fun g hgm t ht => haw (i, o) (by simp) g hgm t ht) (fun x hx t ht => by
              by_cases e : o.dst = some t
              · rw [e, frPut_eq, frPut_eq]
              · rw [frPut_ne e, frPut_ne e]; exact hseen x (by simp [hx]) t ht)
            subst hwm
            refine ⟨⟨i, o, v, wr', ft, none⟩ :: recs, f', c1, c2, by simp [c3], ⟨hrok, hw2, c4⟩, ?_⟩
            have hinlg : mode = 2 → ∀ x ∈ lg, x ∈ lg' := fun hm x hx => by rw [(hlg hm).1]; exact List.mem_append.2 (.inr (List.mem_append.2 (.inr hx)))
            have hinft : mode = 2 → ∀ x ∈ ft, (i, x) ∈ lg' := fun hm x hx => by rw [(hlg hm).1]; exact List.mem_append.2 (.inr (List.mem_append.2 (.inl (List.mem_map.2 ⟨x, hx, rfl⟩))))
            refine ⟨fun hm q hq => ?_, fun hm => List.pairwise_cons.2 ⟨fun q hq => ?_, c5.ord hm⟩, fun hm q hq => ?_, List.pairwise_cons.2 ⟨fun q hq h => absurd rfl h, c5.kl⟩, ⟨fun q hq id hid => ?_, c5.cln⟩, fun q hq id hid => ?_⟩
            · rcases List.mem_cons.1 hq with rfl | hq
              · exact ⟨hw1 hm, rfl⟩
              · exact c5.one hm q hq
            · have d2 := c5.log hm
              by_cases he : reach ops 4 q.o i = true
              · exact .inl he
              · refine .inr ⟨fun id b hb x hx hxi => ?_, fun id b hb x hx hxi => ?_⟩
                · rcases d2 q hq x hx (i, true, id) (hinft hm (true, id) (hw2 id b hb)) with h | h | h
                  · exact h hxi
                  · cases h.2
                  · exact he h
                · rcases d2 q hq (true, id) (RecsOk.wr c4 q hq id b hb) (i, x) (hinft hm x hx) with h | h | h
                  · exact h hxi.symm
                  · cases h.1
                  · exact he h
            · rcases List.mem_cons.1 hq with rfl | hq
              · exact okFoot_ok (hlg hm).2
              · exact fun y hy x hx => c5.log hm q hq y hy x (hinlg hm x hx)
            · obtain ⟨g1, g2, g3, g4⟩ := c5.nam q hq id hid
              by_cases he : reach ops 4 q.o i = true
              · exact .inl he
              · refine .inr (clean_of (hseen (i, o) (by simp)) hw2 (fun hmem => he (g4 (i, false, nameTag id) ?_ rfl)) fun x hx hxi => ?_)
                · rw [(hlg g1).1, g2]
                  exact List.mem_append.2 (.inl (List.mem_map.2 ⟨id, hmem, rfl⟩))
                · rcases c5.log g1 q hq (true, id) g3 (i, x) (hinft g1 x hx) with h | h | h
                  · exact h hxi.symm
                  · cases h.1
                  · exact he h
            · rcases List.mem_cons.1 hq with rfl | hq
              · cases hid
              · obtain ⟨g1, g2, g3, g4⟩ := c5.nam q hq id hid
                exact ⟨g1, g2, g3, fun x hx => g4 x (hinlg g1 x hx)⟩
          rcases hmode with rfl | rfl
          · simp only [Nat.beq, Bool.false_eq_true, if_false] at hk
            split at hk
            · rename_i hqf
              have hwn : wr = none := by
                cases wr with
                | none => rfl
                | some x => have := quietFt_ok hqf _ (hwr x.1 x.2 rfl); cases this
              subst hwn
              exact step none lg hm1'.symm (fun _ => rfl) (by simp) (recOk_of hE hg hA hd hn') hk (by simp)
            · cases hk
          · simp only [Nat.beq, if_true] at hk
            split at hk
            · rename_i hof
              exact step wr _ hm1'.symm (by simp) hwr (recOk_of hE hg hA hd hn') hk fun _ => ⟨rfl, hof⟩
            · cases hk
      · cases h
    · rename_i j pol hg
      split at h
      · rename_i tj htj
        split at h
        · rename_i b hb
          generalize hsp : spanG A ((i, o) :: rest) = sp at h
          obtain ⟨body, rest1⟩ := sp
          have hsplit := spanG_ok hsp
          have hm0 : Nat.beq mode 0 = false := by rcases hmode with rfl | rfl <;> rfl
          simp only [hm0, Bool.false_and, Bool.false_eq_true, if_false] at h
          split at h
          · rename_i ip p rest'
            split at h
            · rename_i c x y hpop
              split at h
              · rename_i hc
                simp only [Bool.and_eq_true, List.all_eq_true, Bool.not_eq_true', beq_eq_false_iff_ne, ne_eq] at hc
                obtain ⟨⟨⟨⟨⟨⟨hctj, hpg⟩, hbody⟩, hgi⟩, hblind⟩, hpd⟩, hm2⟩ := hc
                have hmode1 : mode = 1 := by
                  rcases hmode with h | h
                  · exact h
                  · subst h; simp [Nat.beq] at hm2
                subst hmode1
                have hctj := Nat.eq_of_beq_eq_true hctj
                subst hctj
                have hpg : guardOf p A = none := by simpa using hpg
                obtain ⟨rb, hrb, h⟩ := Option.bind_eq_some_iff.1 h
                have hmem : ∀ z ∈ body, z ∈ (i, o) :: rest := fun z hz => by rw [hsplit]; simp [hz]
                have hmemr : ∀ z ∈ rest', z ∈ (i, o) :: rest := fun z hz => by rw [hsplit]; simp [hz]
                have hmemp : (ip, p) ∈ (i, o) :: rest := by rw [hsplit]; simp
                obtain ⟨htlt, hb⟩ := opd_tmp_pv hb
                have hFc : F c = .pv (.bool b) := by
                  rcases hF c with e | e
                  · rw [← e]; exact hb
                  · rw [e] at hb; cases hb
                -- what comes behind the group
                have after : ∀ (recsB : List Rec) (q : Operand), recsB.map (fun r => (r.i, r.o)) = body → RecsOk E ops w0 F m recsB → (∀ q ∈ recsB, q.wr = none ∧ q.kl = none) → opd E (fAll F recsB) q = .pv (.bool rb) → (q = if b then x else y) →
                    ∃ (recs : List Rec) (f' : Fr), k f' (mAll m recs) = some r ∧ FLe f' (fAll F recs) ∧ recs.map (fun r => (r.i, r.o)) = body ++ (ip, p) :: rest' ∧ RecsOk E ops w0 F m recs ∧ (∀ q ∈ recs, q.wr = none ∧ q.kl = none) := by
                  intro recsB q hmap hrecs hwn hq hqe
                  have hdst : ∀ t, (∀ z ∈ body, z.2.dst ≠ some t) → fAll F recsB t = F t := fun t ht => fAll_none fun q hq => ⟨ht (q.i, q.o) (by rw [← hmap]; exact List.mem_map.2 ⟨q, hq, rfl⟩), (hwn q hq).2⟩
                  have hA1 : Held E.fn.ntmps ops A (fAll F recsB) := fun g hgm => by
                    obtain ⟨t, h1, h0, h2⟩ := hA g hgm
                    exact ⟨t, h1, h0, by rw [hdst t fun z hz => haw z (hmem z hz) g hgm t h1]; exact h2⟩
                  have hb1 : fAll F recsB c = .pv (.bool b) := by rw [hdst c fun z hz => (hbody z hz).2]; exact hFc
                  have hrp : RecOk E ops w0 ⟨ip, p, .pv (.bool rb), none, [], none⟩ (fAll F recsB) m := recOk_of hE hpg hA1 hpd fun f2 m2 hf hm R' k' => by
                    have hb2 : opd E f2 (.tmp c) = .pv (.bool b) := by
                      have := hf (.tmp c) (by rw [hpop]; simp [Op.operands])
                      rw [this, opd_tmp htlt]; exact hb1
                    have hq2 : opd E f2 q = .pv (.bool rb) := by
                      rw [hf q (by rw [hpop, hqe]; cases b <;> simp [Op.operands])]; exact hq
                    rw [xop_pick hpop hb2, ← hqe, hq2]; rfl
                  obtain ⟨recs, f', c1, c2, c3, c4, c5⟩ := evalOps_recs hE hY (.inl rfl) fuel h (fun z hz => hl z (hmemr z hz)) (fun hm z hz => hrk hm z (hmemr z hz)) (fun z hz => haw z (hmemr z hz)) (frPut (fAll F recsB) p.dst (.pv (.bool rb)))
                    (FLe.put (topAll_le fun t ht => by rw [hdst t ht]; exact hF t) _ _) (Held.put hA1 fun g hgm t ht => haw (ip, p) hmemp g hgm t ht) (fun z hz t ht => by
                      by_cases e : p.dst = some t
                      · rw [e, frPut_eq, frPut_eq]
                      · have hnb : ∀ u ∈ body, u.2.dst ≠ some t := fun u hu hud => by
                          have h1 := hblind z hz
                          simp only [blind, List.all_eq_true] at h1
                          have h2 := h1 u hu
                          rw [hud] at h2
                          simp only [Bool.not_eq_true'] at h2
                          have : (z.2.looksAt ops).elem t = true := by simpa using ht
                          rw [this] at h2; cases h2
                        rw [frPut_ne e, frPut_ne e, topAll_ne hnb, hdst t hnb]
                        exact hseen z (hmemr z hz) t ht)
                  have hmB : mAll m recsB = m := mAll_none hwn
                  refine ⟨recsB ++ ⟨ip, p, .pv (.bool rb), none, [], none⟩ :: recs, f', ?_, ?_, by simp [hmap, c3], ?_, fun q hq => ?_⟩
                  · rw [mAll_append, hmB]; exact c1
                  · rw [fAll_append]; exact c2
                  · refine RecsOk.append.2 ⟨hrecs, ?_⟩
                    rw [hmB]
                    exact ⟨hrp, by simp, c4⟩
                  · rcases List.mem_append.1 hq with h | h
                    · exact hwn q h
                    · rcases List.mem_cons.1 h with rfl | h
                      · exact ⟨rfl, rfl⟩
                      · exact c5.one rfl q h
                have fin : (∃ (recs : List Rec) (f' : Fr), k f' (mAll m recs) = some r ∧ FLe f' (fAll F recs) ∧ recs.map (fun r => (r.i, r.o)) = body ++ (ip, p) :: rest' ∧ RecsOk E ops w0 F m recs ∧ (∀ q ∈ recs, q.wr = none ∧ q.kl = none)) →
                    ∃ (recs : List Rec) (f' : Fr), k f' (mAll m recs) = some r ∧ FLe f' (fAll F recs) ∧ recs.map (fun r => (r.i, r.o)) = (i, o) :: rest ∧ RecsOk E ops w0 F m recs ∧ RecsFit ops 1 F m lg recs := by
                  rintro ⟨recs, f', c1, c2, c3, c4, c5⟩
                  exact ⟨recs, f', c1, c2, by rw [hsplit]; exact c3, c4, fun _ => c5, fun h => (by cases h), fun h => (by cases h), List.Pairwise.imp_of_mem (R := fun _ _ => True) (fun {q r} hq hr _ h => absurd (c5 q hq).2 h) (List.pairwise_of_forall fun _ _ => trivial), CleanOk.none fun q hq => (c5 q hq).2, fun q hq id hid => (by rw [(c5 q hq).2] at hid; cases hid)⟩
                have go : ∀ q, b = pol → (q = if b then x else y) → evalOps E ops 1 fuel Bool ((j, pol) :: A) body f m lg (fun f _ => boolV (opd E f q)) = some rb →
                    ∃ (recs : List Rec) (f' : Fr), k f' (mAll m recs) = some r ∧ FLe f' (fAll F recs) ∧ recs.map (fun r => (r.i, r.o)) = body ++ (ip, p) :: rest' ∧ RecsOk E ops w0 F m recs ∧ (∀ q ∈ recs, q.wr = none ∧ q.kl = none) := by
                  intro q hbp hq hev
                  obtain ⟨recsB, f1, c1, c2, c3, c4, c5⟩ := evalOps_recs hE hY (.inl rfl) fuel hev (fun z hz => hl z (hmem z hz)) (fun hm z hz => hrk hm z (hmem z hz)) (fun z hz g hgm t ht => by
                    rcases List.mem_cons.1 hgm with rfl | hgm
                    · simp only [htj] at ht
                      cases ht
                      exact (hbody z hz).2
                    · exact haw z (hmem z hz) g hgm t ht) F hF (fun g hgm => by
                    rcases List.mem_cons.1 hgm with rfl | hgm
                    · exact ⟨c, htj, htlt, by rw [hFc, hbp]⟩
                    · exact hA g hgm) (fun z hz => hseen z (hmem z hz))
                  refine after recsB q c3 c4 (c5.one rfl) ?_ hq
                  have hv := boolV_ok c1
                  rcases opd_le (E := E) c2 q with e | e
                  · rw [← e]; exact hv
                  · rw [e] at hv; cases hv
                have no : ∀ q, b = !pol → (q = if b then x else y) → boolV (opd E (topAll f body) q) = some rb →
                    ∃ (recs : List Rec) (f' : Fr), k f' (mAll m recs) = some r ∧ FLe f' (fAll F recs) ∧ recs.map (fun r => (r.i, r.o)) = body ++ (ip, p) :: rest' ∧ RecsOk E ops w0 F m recs ∧ (∀ q ∈ recs, q.wr = none ∧ q.kl = none) := by
                  intro q hbp hq hev
                  obtain ⟨s1, s2⟩ := recs_skip (E := E) (w0 := w0) (m := m) body F (fun z hz => (hbody z hz).1.2) (dead_all htj hgi (fun z hz => hl z (hmem z hz)) (fun z hz => (hbody z hz).2) (by rw [hFc, hbp]) (by simp))
                  refine after (body.map skipRec) q (by simp [skipRec, Function.comp_def]) s1 (fun u hu => by obtain ⟨z, _, rfl⟩ := List.mem_map.1 hu; exact ⟨rfl, rfl⟩) ?_ hq
                  rw [s2]
                  have hv := boolV_ok hev
                  have hle : FLe (topAll f body) (skipAll F body) := topAll_le fun t ht => by rw [skipAll_ne ht]; exact hF t
                  rcases opd_le (E := E) hle q with e | e
                  · rw [← e]; exact hv
                  · rw [e] at hv; cases hv
                refine fin ?_
                cases pol <;> cases b <;> simp only [cond] at hrb
                · exact go y rfl rfl hrb
                · exact no x rfl rfl hrb
                · exact no y rfl rfl hrb
                · exact go x rfl rfl hrb
              · cases h
            · cases h
          · cases h
        · cases h
      · cases h

theorem mem_zip_range {l : List Oper} {i : Nat} {o : Oper} : (i, o) ∈ (List.range l.length).zip l ↔ l[i]? = some o := by
  rw [List.mem_iff_getElem?]
  constructor
  · rintro ⟨n, hn⟩
    rw [List.getElem?_zip_eq_some] at hn
    obtain ⟨h1, h2⟩ := hn
    rw [List.getElem?_range (by have := (List.getElem?_eq_some_iff.1 h2).1; omega)] at h1
    simp only [Option.some.injEq] at h1
    subst h1; exact h2
  · intro h
    refine ⟨i, List.getElem?_zip_eq_some.2 ⟨?_, h⟩⟩
    exact List.getElem?_range (by have := (List.getElem?_eq_some_iff.1 h).1; omega)

theorem indep_ok : ∀ {l done : List (Nat × Oper)}, indepOk ops done l = true →
    (∀ x ∈ l, ∀ d ∈ done, reach ops 4 x.2 d.1 = true ∨ d.2.apart ops x.2 = true) ∧ l.Pairwise (fun q r => reach ops 4 r.2 q.1 = true ∨ q.2.apart ops r.2 = true) ∧ ∀ x ∈ l, ∀ e ∈ x.2.after, Region.binds .any e = true → e.on < x.1
  | [], _, _ => ⟨by simp, .nil, by simp⟩
  | (i, o) :: r, done, h => by
    simp only [indepOk, Bool.and_eq_true] at h
    obtain ⟨⟨h1, h2⟩, h3⟩ := h
    obtain ⟨i1, i2, i3⟩ := indep_ok h3
    have hap : ∀ {done : List (Nat × Oper)}, apartFrom ops done o = true → ∀ d ∈ done, reach ops 4 o d.1 = true ∨ d.2.apart ops o = true := by
      intro done
      induction done with
      | nil => intro _ d hd; cases hd
      | cons x l ih =>
        intro h d hd
        simp only [apartFrom, Bool.and_eq_true, Bool.or_eq_true] at h
        rcases List.mem_cons.1 hd with rfl | hd
        · exact h.1.symm
        · exact ih h.2 d hd
    refine ⟨fun x hx d hd => ?_, List.pairwise_cons.2 ⟨fun x hx => i1 x hx (i, o) (by simp), i2⟩, fun x hx e he hb => ?_⟩
    · rcases List.mem_cons.1 hx with rfl | hx
      · exact hap h2 d hd
      · exact i1 x hx d (by simp [hd])
    · rcases List.mem_cons.1 hx with rfl | hx
      · have := List.all_eq_true.1 h1 e (Array.mem_toList_iff.2 he)
        simp only [hb, Bool.not_true, Bool.false_or] at this
        rwa [Nat.blt_eq] at this
      · exact i3 x hx e he hb
theorem region_any {rd : Option Nat} (hE : EnvOk E) (hY : YlOk E.P E.glob E.fn.ntmps E.yl w0) {mode : Nat} (hmode : mode = 1 ∨ mode = 2) (hrk : mode = 1 → ∀ o ∈ ops, readKind o = true) {R : Type} {f : Fr} {m : Mem} {k : Fr → Mem → Option R} {r : R}
    (hi : indepOk ops [] ((List.range ops.size).zip ops.toList) = true) {fuel : Nat} (h : evalOps E ops mode fuel R [] ((List.range ops.size).zip ops.toList) f m [] k = some r) {μ : Ro} {φ : Nat → Phys} {a : Act} {w : World}
    (hR : Rel E.P E.glob E.fn.ntmps w0 μ φ f m a w) {Q : Exit → Act → World → Prop}
    (hQ : ∀ f' m' μ' φ' a' w', k f' m' = some r → Rel E.P E.glob E.fn.ntmps w0 μ' φ' f' m' a' w' → Q .normal a' w') : wpAnyIn (FR rd) 0 E.P .any ops Q ops.size (Array.replicate ops.size false) a w := by
  have hmz : ∀ x ∈ (List.range ops.size).zip ops.toList, ops[x.1]? = some x.2 := fun x hx => by
    have := (mem_zip_range (l := ops.toList) (i := x.1) (o := x.2)).1 (by simpa using hx)
    rwa [Array.getElem?_toList] at this
  obtain ⟨recs, f', c1, c2, c3, c4, c5⟩ := evalOps_recs (w0 := w0) hE hY hmode fuel h hmz (fun hm x hx => hrk hm x.2 (Array.mem_of_getElem? (hmz x hx))) (by intro x hx g hg; cases hg) f (FLe.refl f) (by intro g hg; cases hg) (fun _ _ _ _ => rfl)
  obtain ⟨_, i2, i3⟩ := indep_ok hi
  have hmem : ∀ q ∈ recs, (q.i, q.o) ∈ (List.range ops.size).zip ops.toList := fun q hq => by rw [← c3]; exact List.mem_map.2 ⟨q, hq, rfl⟩
  have hap : recs.Pairwise fun q r => reach ops 4 r.o q.i = true ∨ q.o.apart ops r.o = true := by rw [← c3, List.pairwise_map] at i2; exact i2
  have hmo : recs.Pairwise (MemOrd (ops := ops)) := by
    rcases hmode with hm | hm
    · exact List.Pairwise.imp_of_mem (fun {q r} hq hr _ => .inr ⟨fun id b hb => (by rw [(c5.one hm q hq).1] at hb; cases hb), fun id b hb => (by rw [(c5.one hm r hr).1] at hb; cases hb)⟩) hap
    · exact c5.ord hm
  refine any_order (E := E) (w0 := w0) (recs := recs) (f0 := f) (m0 := m) ?_ (fun q hq => hmz _ (hmem q hq)) (fun i o ho => ?_) ?_ c5.kl c5.cln (fun q hq => i3 _ (hmem q hq)) c4 (fun μ φ a w hR => hQ _ _ μ φ a w c1 (hR.weaken c2)) ops.size _ (by simp) ?_ ?_ μ φ a w ?_
  · have h1 : (recs.map fun r => (r.i, r.o)).map Prod.fst = List.range ops.size := by rw [c3, List.map_fst_zip (by simp)]
    rw [List.map_map] at h1
    have h2 : (recs.map (Prod.fst ∘ fun r => (r.i, r.o))).Pairwise (· < ·) := by rw [h1]; exact List.pairwise_lt_range
    rw [List.pairwise_map] at h2
    exact h2
  · have : (i, o) ∈ (List.range ops.size).zip ops.toList := by
      have := (mem_zip_range (l := ops.toList) (i := i) (o := o)).2 (by rw [Array.getElem?_toList]; exact ho)
      simpa using this
    rw [← c3] at this
    obtain ⟨q, hq, he⟩ := List.mem_map.1 this
    simp only [Prod.mk.injEq] at he
    exact ⟨q, hq, he.1, he.2⟩
  · refine List.Pairwise.imp (fun {q r} h => ?_) (List.Pairwise.and hap hmo)
    obtain ⟨h1, h2⟩ := h
    rcases h1 with h1 | h1
    · exact .inl h1
    · rcases h2 with h2 | h2
      · exact .inl h2
      · exact .inr ⟨h1, h2⟩
  · have := List.countP_le_length (p := fun b => !b) (l := (Array.replicate ops.size false).toList)
    simpa using this
  · intro q hq hqi
    simp [listed?, Array.getD_eq_getD_getElem?, Array.getElem?_replicate] at hqi
    split at hqi <;> simp at hqi
  · have hS : ∀ j, listed? (Array.replicate ops.size false) j = false := fun j => by
      simp only [listed?, Array.getD_eq_getD_getElem?, Array.getElem?_replicate]
      split <;> rfl
    rw [show fSel (listed? (Array.replicate ops.size false)) f recs = f from funext fun t => fSel_none fun q _ hs => (by rw [hS] at hs; cases hs), show mSel (listed? (Array.replicate ops.size false)) m recs = m from funext fun t => mSel_none fun q _ hs => (by rw [hS] at hs; cases hs)]
    exact hR
end
end Go.Ab
