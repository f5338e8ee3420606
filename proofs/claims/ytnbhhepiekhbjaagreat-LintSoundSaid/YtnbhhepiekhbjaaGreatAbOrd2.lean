/- Operations in a region whose order is fixed. -/
import Derived.Test.YtnbhhepiekhbjaaGreatAbOrd
set_option linter.unusedVariables false
namespace Go.Ab
open Go.RowKit (Below)
section
variable {E : Env} {ops : Array Oper} {w0 : Base}
theorem wpOps_skip {rd : Option Nat} {Q : Exit → Act → World → Prop} {tail : List Nat} : ∀ (l : List (Nat × Oper)) (f : Fr), (∀ x ∈ l, ops[x.1]? = some x.2) → (∀ x ∈ l, dstOk E x.2 = true) → (∀ (pre post : List (Nat × Oper)) (x : Nat × Oper), l = pre ++ x :: post → Dead ops (skipAll f pre) x.2) →
    ∀ {μ : Ro} {φ : Nat → Phys} {m : Mem} {a : Act} {w : World}, Rel E.P E.glob E.fn.ntmps w0 μ φ f m a w → (∀ a', Rel E.P E.glob E.fn.ntmps w0 μ φ (skipAll f l) m a' w → wpOpsIn (FR rd) 0 E.P ops Q tail a' w) → wpOpsIn (FR rd) 0 E.P ops Q (l.map (·.1) ++ tail) a w
  | [], f, _, _, _, _, _, _, a, _, hR, hK => hK a hR
  | x :: r, f, hl, hd, hdead, μ, φ, m, a, w, hR, hK => by
    simp only [List.map_cons, List.cons_append, wpOpsIn]
    rw [hl x (by simp)]
    simp only
    rw [dead_unwanted hR (hdead [] r x rfl)]
    simp only [Bool.false_eq_true, if_false]
    refine And.intro (fun _ _ => trivial) (wpOps_skip r (frPut f x.2.dst (.tup [])) (fun y hy => hl y (by simp [hy])) (fun y hy => hd y (by simp [hy])) (fun pre post y h => ?_) (hR.put (fun _ _ h => h) (dstOk_lt (hd x (by simp))) hR.toRelM hR.frOk rep_undef' (fun id hid => by simp [V.has, hasL] at hid)) hK)
    have := hdead (x :: pre) post y (by rw [h]; rfl)
    rwa [skipAll] at this
theorem wpOps_skip' {rd : Option Nat} {Q : Exit → Act → World → Prop} {tail : List Nat} : ∀ (l : List (Nat × Oper)) (f : Fr), (∀ x ∈ l, ops[x.1]? = some x.2) → (∀ x ∈ l, dstOk E x.2 = true) → (∀ (pre post : List (Nat × Oper)) (x : Nat × Oper), l = pre ++ x :: post → Dead ops (skipAll f pre) x.2) →
    ∀ {μ : Ro} {φ : Nat → Phys} {m : Mem} {a : Act} {w : World}, Rel E.P E.glob E.fn.ntmps w0 μ φ f m a w → ∀ (A : List (Nat × Bool)), HeldA ops A a → Away ops A l → (∀ a', Rel E.P E.glob E.fn.ntmps w0 μ φ (skipAll f l) m a' w → HeldA ops A a' → wpOpsIn (FR rd) 0 E.P ops Q tail a' w) → wpOpsIn (FR rd) 0 E.P ops Q (l.map (·.1) ++ tail) a w
  | [], f, _, _, _, _, _, _, a, _, hR, _, hA, _, hK => hK a hR hA
  | x :: r, f, hl, hd, hdead, μ, φ, m, a, w, hR, A, hA, haw, hK => by
    simp only [List.map_cons, List.cons_append, wpOpsIn]
    rw [hl x (by simp)]
    simp only
    rw [dead_unwanted hR (hdead [] r x rfl)]
    simp only [Bool.false_eq_true, if_false]
    refine And.intro (fun _ _ => trivial) (wpOps_skip' r (frPut f x.2.dst (.tup [])) (fun y hy => hl y (by simp [hy])) (fun y hy => hd y (by simp [hy])) (fun pre post y h => ?_) (hR.put (fun _ _ h => h) (dstOk_lt (hd x (by simp))) hR.toRelM hR.frOk rep_undef' (fun id hid => by simp [V.has, hasL] at hid)) A
      (hA.put (fun t ht => by rw [hR.size]; exact dstOk_lt (hd x (by simp)) t ht) fun g hgm t ht => haw x (by simp) g hgm t ht) (fun y hy => haw y (by simp [hy])) hK)
    have := hdead (x :: pre) post y (by rw [h]; rfl)
    rwa [skipAll] at this

theorem quietFt_ok : ∀ {ft : Foot}, quietFt ft = true → ∀ x ∈ ft, x.1 = false
  | [], _, x, hx => by cases hx
  | (w, id) :: r, h, x, hx => by
    simp only [quietFt, Bool.and_eq_true, Bool.not_eq_true'] at h
    rcases List.mem_cons.1 hx with rfl | hx
    · exact h.1
    · exact quietFt_ok h.2 x hx

theorem evalOps_seq (hE : EnvOk E) {rd : Option Nat} (hY : YlOk E.P E.glob E.fn.ntmps E.yl w0) : ∀ (fuel : Nat) {mode : Nat} (hmode : mode = 0 ∨ mode = 3) {R : Type} {A : List (Nat × Bool)} {l : List (Nat × Oper)} {f : Fr} {m : Mem} {lg : Log} {k : Fr → Mem → Option R} {r : R}, evalOps E ops mode fuel R A l f m lg k = some r →
    (∀ x ∈ l, ops[x.1]? = some x.2) → Away ops A l → (mode = 3 → ∀ x ∈ l, readKind x.2 = true) →
    ∀ (μ : Ro) (φ : Nat → Phys) (a : Act) (w : World) (Q : Exit → Act → World → Prop) (tail : List Nat), Rel E.P E.glob E.fn.ntmps w0 μ φ f m a w → HeldA ops A a →
      (∀ (f' : Fr) (m' : Mem) (μ' : Ro) (φ' : Nat → Phys) (a' : Act) (w' : World), k f' m' = some r → Rel E.P E.glob E.fn.ntmps w0 μ' φ' f' m' a' w' → HeldA ops A a' →
        (mode = 3 → m' = m ∧ ∀ t, (∀ x ∈ l, x.2.dst ≠ some t) → f' t = f t) → wpOpsIn (FR rd) 0 E.P ops Q tail a' w') → wpOpsIn (FR rd) 0 E.P ops Q (l.map (·.1) ++ tail) a w
  | 0, _, _, _, _, _, _, _, _, _, _, h, _, _, _, _, _, _, _, _, _, _, _, _ => by simp [evalOps] at h
  | fuel + 1, mode, hmode, R, A, [], f, m, lg, k, r, h, _, _, _, μ, φ, a, w, Q, tail, hR, hA, hK => by
    simp only [evalOps] at h
    exact hK f m μ φ a w h hR hA fun _ => ⟨rfl, fun _ _ => rfl⟩
  | fuel + 1, mode, hmode, R, A, (i, o) :: rest, f, m, lg, k, r, h, hl, haw, hrk, μ, φ, a, w, Q, tail, hR, hA, hK => by
    simp only [evalOps] at h
    split at h
    · rename_i hg
      split at h
      · rename_i hd
        have hmm : Nat.beq mode 2 = false := by rcases hmode with rfl | rfl <;> rfl
        simp only [hmm, cond_false] at h
        rw [← hmm] at h
        have hdf := xop_defer h
        rcases xop_ok hE h with ⟨v, f1, m1, ft, hk, hop⟩ | ⟨_, hin⟩
        rotate_left
        · simp only [List.map_cons, List.cons_append, wpOpsIn]
          rw [hl (i, o) (by simp)]
          simp only
          rw [wanted_of hg hA, if_pos rfl]
          refine OpIn.soundR hin rd w0 μ φ a w _ Q hY hR fun v f1 m1 y w' μ' φ' hk hle hM hF hv hlv => ?_
          have hm2 : Nat.beq mode 2 = false := by rcases hmode with rfl | rfl <;> rfl
          rw [hm2] at hk
          simp only [Bool.false_eq_true, if_false] at hk
          rcases hmode with rfl | rfl
          · simp only [Nat.beq, if_true] at hk
            exact evalOps_seq hE hY fuel (.inl rfl) hk (fun x hx => hl x (by simp [hx])) (fun x hx => haw x (by simp [hx])) (fun hm x hx => hrk hm x (by simp [hx])) _ _ _ _ Q tail (hR.put hle (dstOk_lt hd) hM hF hv hlv)
              (hA.put (fun t ht => by rw [hR.size]; exact dstOk_lt hd t ht) fun g hgm t ht => haw (i, o) (by simp) g hgm t ht) fun f' m' μ2 φ2 a' w2 hk' hR' hA' hro => hK f' m' μ2 φ2 a' w2 hk' hR' hA' fun h => by cases h
          · simp [Nat.beq, quietFt] at hk
        have hm2 : Nat.beq mode 2 = false := by rcases hmode with rfl | rfl <;> rfl
        rw [hm2] at hk
        simp only [Bool.false_eq_true, if_false] at hk
        have hq : (mode = 3 → f1 = f ∧ m1 = m) ∧ evalOps E ops mode fuel R A rest (frPut f1 o.dst v) m1 lg k = some r := by
          rcases hmode with rfl | rfl
          · simp only [Nat.beq, if_true] at hk
            exact ⟨fun h => (by cases h), hk⟩
          · simp only [Nat.beq, Bool.false_eq_true, if_false] at hk
            split at hk
            · rename_i hqf
              exact ⟨fun h => hop.same (hrk rfl (i, o) (by simp)) (quietFt_ok hqf), hk⟩
            · cases hk
        obtain ⟨hsame, hk⟩ := hq
        simp only [List.map_cons, List.cons_append, wpOpsIn]
        rw [hl (i, o) (by simp)]
        simp only
        rw [wanted_of hg hA, if_pos rfl]
        refine hop.soundR hdf rd w0 μ φ a w _ Q hR fun y w' μ' φ' hle hM hF hv hlv => ?_
        refine evalOps_seq hE hY fuel hmode hk (fun x hx => hl x (by simp [hx])) (fun x hx => haw x (by simp [hx])) (fun hm x hx => hrk hm x (by simp [hx])) _ _ _ _ Q tail (hR.put hle (dstOk_lt hd) hM hF hv hlv)
          (hA.put (fun t ht => by rw [hR.size]; exact dstOk_lt hd t ht) fun g hgm t ht => haw (i, o) (by simp) g hgm t ht) fun f' m' μ2 φ2 a' w2 hk' hR' hA' hro => ?_
        refine hK f' m' μ2 φ2 a' w2 hk' hR' hA' fun hm3 => ?_
        obtain ⟨e1, e2⟩ := hsame hm3
        obtain ⟨e3, e4⟩ := hro hm3
        refine ⟨by rw [e3, e2], fun t ht => ?_⟩
        rw [e4 t fun x hx => ht x (by simp [hx]), frPut_ne (ht (i, o) (by simp)), e1]
      · cases h
    · rename_i j pol hg
      split at h
      · rename_i tj htj
        split at h
        · rename_i b hb
          have htlt : tj < E.fn.ntmps := by
            simp only [opd] at hb
            cases e : Nat.blt tj E.fn.ntmps with
            | true => rwa [Nat.blt_eq] at e
            | false => rw [e] at hb; cases hb
          have hbf : f tj = .pv (.bool b) := by
            simp only [opd] at hb
            rw [show Nat.blt tj E.fn.ntmps = true by rw [Nat.blt_eq]; exact htlt] at hb; exact hb
          have hba : a.tmps.getD tj undef = .bool b := by
            have := (opd_rep hR (.tmp tj)).1
            rw [hb] at this
            exact rep_bool this
          generalize hsp : spanG A ((i, o) :: rest) = sp at h
          obtain ⟨body, rest1⟩ := sp
          have hsplit := spanG_ok hsp
          simp only at h
          split at h
          · -- a group with calls that are walked in place
            rename_i hloud
            split at h
            · rename_i hc
              simp only [Bool.and_eq_true, List.all_eq_true, Bool.not_eq_true', beq_eq_false_iff_ne, ne_eq] at hc hloud
              obtain ⟨⟨hbd, hgi⟩, haway⟩ := hc
              have hm0 : mode = 0 := Nat.eq_of_beq_eq_true hloud.1
              subst hm0
              have hmem : ∀ z ∈ body, z ∈ (i, o) :: rest := fun z hz => by rw [hsplit]; simp [hz]
              have hmemr : ∀ z ∈ rest1, z ∈ (i, o) :: rest := fun z hz => by rw [hsplit]; simp [hz]
              by_cases hbp : b = pol
              · have : sameB pol b = true := by subst hbp; cases b <;> rfl
                rw [this] at h
                simp only [cond] at h
                have hfs : frSet f tj (.pv (.bool pol)) = f := funext fun t => by
                  unfold frSet
                  cases e : Nat.beq t tj with
                  | false => rfl
                  | true => rw [Nat.eq_of_beq_eq_true e]; simp only [cond]; rw [← hbp]; exact hbf.symm
                rw [hfs] at h
                refine evalOps_seq hE hY fuel hmode h hl (fun z hz g hgm t ht => ?_) (fun h => by cases h) _ _ _ _ Q tail hR (fun g hgm => ?_) fun f' m' μ2 φ2 a' w2 hk' hR' hA' hro => hK f' m' μ2 φ2 a' w2 hk' hR' (fun g hgm => hA' g (by simp [hgm])) fun h => by cases h
                · rcases List.mem_cons.1 hgm with rfl | hgm
                  · simp only [htj] at ht
                    cases ht
                    exact haway z hz
                  · exact haw z hz g hgm t ht
                · rcases List.mem_cons.1 hgm with rfl | hgm
                  · exact ⟨tj, htj, by rw [hba, hbp]⟩
                  · exact hA g hgm
              · have : sameB pol b = false := by cases b <;> cases pol <;> first | rfl | exact absurd rfl hbp
                rw [this] at h
                simp only [cond] at h
                have hbn : b = !pol := by cases b <;> cases pol <;> first | rfl | exact absurd rfl hbp
                have hfs : frSet f tj (.pv (.bool !pol)) = f := funext fun t => by
                  unfold frSet
                  cases e : Nat.beq t tj with
                  | false => rfl
                  | true => rw [Nat.eq_of_beq_eq_true e]; simp only [cond]; rw [← hbn]; exact hbf.symm
                rw [hfs] at h
                rw [hsplit, List.map_append, List.append_assoc]
                refine wpOps_skip' body f (fun z hz => hl z (hmem z hz)) hbd (dead_all htj hgi (fun z hz => hl z (hmem z hz)) (fun z hz => haway z (hmem z hz)) (by rw [hbf, hbn]) (by simp)) hR A hA (fun z hz g hgm t ht => haw z (hmem z hz) g hgm t ht) fun a' hR' hA' => ?_
                · refine evalOps_seq hE hY fuel hmode h (fun z hz => hl z (hmemr z hz)) (fun z hz => haw z (hmemr z hz)) (fun h => by cases h) _ _ _ _ Q tail hR' hA' fun f' m' μ2 φ2 a' w2 hk' hR' hA' hro => hK f' m' μ2 φ2 a' w2 hk' hR' hA' fun h => by cases h
            · cases h
          · split at h
            · rename_i ip p rest'
              split at h
              · rename_i c x y hpop
                split at h
                · rename_i hc
                  simp only [Bool.and_eq_true, List.all_eq_true, Bool.not_eq_true', beq_eq_false_iff_ne, ne_eq] at hc
                  obtain ⟨⟨⟨⟨⟨⟨hctj, hpg⟩, hbody⟩, hgi⟩, _⟩, hpd⟩, _⟩ := hc
                  have hctj := Nat.eq_of_beq_eq_true hctj
                  subst hctj
                  have hpg : guardOf p A = none := by simpa using hpg
                  obtain ⟨rb, hrb, h⟩ := Option.bind_eq_some_iff.1 h
                  have hmem : ∀ z ∈ body, z ∈ (i, o) :: rest := fun z hz => by rw [hsplit]; simp [hz]
                  have hmemr : ∀ z ∈ rest', z ∈ (i, o) :: rest := fun z hz => by rw [hsplit]; simp [hz]
                  have hmemp : (ip, p) ∈ (i, o) :: rest := by rw [hsplit]; simp
                  rw [hsplit, List.map_append, List.append_assoc]
                  -- what comes behind the group
                  have after : ∀ (f1 : Fr) (μ1 : Ro) (φ1 : Nat → Phys) (a1 : Act) (w1 : World) (q : Operand), Rel E.P E.glob E.fn.ntmps w0 μ1 φ1 f1 m a1 w1 → HeldA ops A a1 → (∀ t, (∀ z ∈ body, z.2.dst ≠ some t) → f1 t = f t) → opd E f1 q = .pv (.bool rb) →
                      (q = if b then x else y) → wpOpsIn (FR rd) 0 E.P ops Q (((ip, p) :: rest').map (·.1) ++ tail) a1 w1 := by
                    intro f1 μ1 φ1 a1 w1 q hR1 hA1 hf1 hq hqe
                    have hb1 : opd E f1 (.tmp c) = .pv (.bool b) := by
                      simp only [opd]
                      rw [show Nat.blt c E.fn.ntmps = true by rw [Nat.blt_eq]; exact htlt]
                      show f1 c = _
                      rw [hf1 c fun z hz => (hbody z hz).2]; exact hbf
                    simp only [List.map_cons, List.cons_append, wpOpsIn]
                    rw [hl (ip, p) hmemp]
                    simp only
                    rw [wanted_of hpg hA1, if_pos rfl]
                    have hop : OpOk E (Nat.beq mode 1 || Nat.beq mode 2) (siteOf E p.dst) p f1 m (.pv (.bool rb)) f1 m [] := op_at hE (.inr ⟨_, _, _, hpop⟩) fun R' k' => by
                      rw [xop_pick hpop hb1, ← hqe, hq]
                    refine hop.soundR (fun c h => by rw [hpop] at h; cases h) rd w0 μ1 φ1 a1 w1 _ Q hR1 fun z w' μ' φ' hro hM hF hv hlv => ?_
                    have hle : FLe (frPut (topAll f body) p.dst (.pv (.bool rb))) (frPut f1 p.dst (.pv (.bool rb))) := FLe.put (topAll_le fun t ht => .inl (hf1 t ht).symm) _ _
                    refine evalOps_seq hE hY fuel hmode h (fun z hz => hl z (hmemr z hz)) (fun z hz => haw z (hmemr z hz)) (fun hm z hz => hrk hm z (hmemr z hz)) _ _ _ _ Q tail ((hR1.put hro (dstOk_lt hpd) hM hF hv hlv).weaken hle)
                      (hA1.put (fun t ht => by rw [hR1.size]; exact dstOk_lt hpd t ht) fun g hgm t ht => haw (ip, p) hmemp g hgm t ht) fun f' m' μ2 φ2 a' w2 hk' hR' hA' hro => ?_
                    refine hK f' m' μ2 φ2 a' w2 hk' hR' hA' fun hm3 => ?_
                    obtain ⟨e3, e4⟩ := hro hm3
                    refine ⟨e3, fun t ht => ?_⟩
                    rw [e4 t fun z hz => ht z (hmemr z hz), frPut_ne (ht (ip, p) hmemp), topAll_ne fun z hz => ht z (hmem z hz)]
                  -- the group is carried out
                  have go : ∀ q, b = pol → (q = if b then x else y) → evalOps E ops 3 fuel Bool ((j, pol) :: A) body f m lg (fun f _ => boolV (opd E f q)) = some rb → wpOpsIn (FR rd) 0 E.P ops Q (body.map (·.1) ++ (((ip, p) :: rest').map (·.1) ++ tail)) a w := by
                    intro q hbp hq hev
                    refine evalOps_seq hE hY fuel (.inr rfl) hev (fun z hz => hl z (hmem z hz)) ?_ (fun _ z hz => (hbody z hz).1.1) _ _ _ _ Q _ hR ?_ fun f' m' μ2 φ2 a' w2 hk' hR' hA' hro => ?_
                    · intro z hz g hgm t ht
                      rcases List.mem_cons.1 hgm with rfl | hgm
                      · simp only [htj] at ht
                        cases ht
                        exact (hbody z hz).2
                      · exact haw z (hmem z hz) g hgm t ht
                    · intro g hgm
                      rcases List.mem_cons.1 hgm with rfl | hgm
                      · exact ⟨c, htj, by rw [hba, hbp]⟩
                      · exact hA g hgm
                    · obtain ⟨e1, e2⟩ := hro rfl
                      subst e1
                      exact after f' μ2 φ2 a' w2 q hR' (fun g hgm => hA' g (by simp [hgm])) e2 (boolV_ok hk') hq
                  -- the group is left out
                  have no : ∀ q, b = !pol → (q = if b then x else y) → boolV (opd E (topAll f body) q) = some rb → wpOpsIn (FR rd) 0 E.P ops Q (body.map (·.1) ++ (((ip, p) :: rest').map (·.1) ++ tail)) a w := by
                    intro q hbp hq hev
                    refine wpOps_skip' body f (fun z hz => hl z (hmem z hz)) (fun z hz => (hbody z hz).1.2) (dead_all htj hgi (fun z hz => hl z (hmem z hz)) (fun z hz => (hbody z hz).2) (by rw [hbf, hbp]) (by simp)) hR A hA (fun z hz g hgm t ht => haw z (hmem z hz) g hgm t ht) fun a' hR' hA' => ?_
                    refine after _ μ φ a' w q hR' hA' (fun t ht => skipAll_ne ht) ?_ hq
                    have hv := boolV_ok hev
                    cases q with
                    | tmp t =>
                      simp only [opd] at hv ⊢
                      have hle : FLe (topAll f body) (skipAll f body) := topAll_le fun t ht => .inl (skipAll_ne ht).symm
                      cases e : Nat.blt t E.fn.ntmps with
                      | false => rw [e] at hv; cases hv
                      | true =>
                        rw [e] at hv
                        simp only [cond] at hv ⊢
                        rcases hle t with e | e
                        · rw [← e]; exact hv
                        · rw [e] at hv; cases hv
                    | _ => exact hv
                  have hbm : (bif Nat.beq mode 0 then 3 else mode) = 3 := by rcases hmode with rfl | rfl <;> rfl
                  rw [hbm] at hrb
                  cases pol <;> cases b <;> simp only [cond] at hrb
                  · exact go y rfl rfl hrb
                  · exact no x rfl rfl hrb
                  · exact no y rfl rfl hrb
                  · exact go x rfl rfl hrb
                · cases h
              · cases h
            · cases h
        · cases h
      · cases h
end
end Go.Ab
