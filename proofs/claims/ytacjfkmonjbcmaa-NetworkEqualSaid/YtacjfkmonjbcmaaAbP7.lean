/- Operations in a region: in the text's order, and in any order that the edges allow. -/
import Derived.Test.YtacjfkmonjbcmaaAbP6
import Derived.OrdersIn
set_option linter.unusedVariables false
namespace Go.Ab
open Go.RowKit (Below)
def FLe (f F : Fr) : Prop := ∀ t, f t = F t ∨ f t = .top

theorem FLe.refl (f : Fr) : FLe f f := fun _ => .inl rfl
theorem FLe.put {f F : Fr} (h : FLe f F) (d : Option Nat) (v : V) : FLe (frPut f d v) (frPut F d v) := by
  intro t
  cases d with
  | none => exact h t
  | some d =>
    simp only [frPut, frSet]
    cases Nat.beq t d
    · exact h t
    · exact .inl rfl
theorem frPut_ne {f : Fr} {d : Option Nat} {v : V} {t : Nat} (h : d ≠ some t) : frPut f d v t = f t := by
  cases d with
  | none => rfl
  | some d => exact frSet_ne (fun e => h (by rw [e]))
theorem frPut_eq {f : Fr} {v : V} {t : Nat} : frPut f (some t) v t = v := by
  simp [frPut, frSet, Nat.beq_refl]

section
variable {E : Env} {ops : Array Oper} {w0 : Base}

theorem Rel.weaken {nt : Nat} {μ : Ro} {φ : Nat → Phys} {f f' : Fr} {m : Mem} {a : Act} {w : World} (h : Rel E.P E.glob nt w0 μ φ f m a w) (hf : FLe f' f) : Rel E.P E.glob nt w0 μ φ f' m a w :=
  { h with
    fr := fun t => by
      rcases hf t with e | e
      · rw [e]; exact h.fr t
      · rw [e]; exact .top
    live := fun t id hid => by
      rcases hf t with e | e
      · rw [e] at hid; exact h.live t id hid
      · rw [e] at hid; cases hid }

theorem put_getD {a : Act} {d t : Nat} {y : Value} (hd : d < a.tmps.size) : (a.put (some d) y).tmps.getD t undef = if t = d then y else a.tmps.getD t undef := by
  simp only [Act.put, Array.getD_eq_getD_getElem?, Array.getElem?_setIfInBounds]
  by_cases e : d = t
  · subst e; simp [hd]
  · have e' : ¬ t = d := fun h => e h.symm
    simp [e, e']

theorem Rel.put {nt : Nat} {μ μ' : Ro} {φ φ' : Nat → Phys} {f f' : Fr} {m m' : Mem} {a : Act} {w w' : World} (h : Rel E.P E.glob nt w0 μ φ f m a w) (hle : RoLe μ μ') {dst : Option Nat} {v : V} {y : Value} (hd : ∀ d, dst = some d → d < nt)
    (hM : RelM E.P E.glob w0 μ' φ' m' w') (hF : FrOk E.P μ' φ' m' f' (slots nt w0 a)) (hv : RepV E.P μ' φ' v y) (hl : ∀ id, v.has id = true → (m' id).isSome = true) : Rel E.P E.glob nt w0 μ' φ' (frPut f' dst v) m' (a.put dst y) w' := by
  refine { toRelM := hM, size := ?_, defers := ?_, old := h.old, fr := fun t => ?_, live := fun t id hid => ?_ }
  · cases dst <;> simp [Act.put, h.size]
  · cases dst <;> exact h.defers.mono hle
  · cases dst with
    | none => exact hF.fr t
    | some d =>
      have hlt : d < a.tmps.size := by rw [h.size]; exact hd d rfl
      have hf := hF.fr t
      by_cases e : t = d
      · subst e
        rw [slots_lt (hd t rfl), put_getD hlt, if_pos rfl, frPut_eq]; exact hv
      · rw [frPut_ne (by simpa using fun h => e h.symm)]
        unfold slots at hf ⊢
        split
        · rename_i ht
          rw [if_pos ht] at hf
          rw [put_getD hlt, if_neg e]; exact hf
        · rename_i ht
          rw [if_neg ht] at hf; exact hf
  · by_cases e : dst = some t
    · subst e; rw [frPut_eq] at hid; exact hl id hid
    · rw [frPut_ne e] at hid; exact hF.live t id hid

theorem opd_tmp {f : Fr} {t : Nat} (h : t < E.fn.ntmps) : opd E f (.tmp t) = f t := by
  simp only [opd]
  rw [show Nat.blt t E.fn.ntmps = true by rw [Nat.blt_eq]; exact h]; rfl
theorem opd_tmp_pv {f : Fr} {t : Nat} {p : PV} (h : opd E f (.tmp t) = .pv p) : t < E.fn.ntmps ∧ f t = .pv p := by
  simp only [opd] at h
  cases e : Nat.blt t E.fn.ntmps with
  | true => rw [e] at h; exact ⟨by rwa [Nat.blt_eq] at e, h⟩
  | false => rw [e] at h; cases h
theorem opd_le {f F : Fr} (h : FLe f F) (q : Operand) : opd E f q = opd E F q ∨ opd E f q = .top := by
  cases q with
  | tmp t =>
    simp only [opd]
    cases Nat.blt t E.fn.ntmps with
    | true => exact h t
    | false => exact .inr rfl
  | _ => exact .inl rfl
def Held (nt : Nat) (ops : Array Oper) (A : List (Nat × Bool)) (f : Fr) : Prop := ∀ g ∈ A, ∃ t, (ops[g.1]?).bind (·.dst) = some t ∧ t < nt ∧ f t = .pv (.bool g.2)
def HeldA (ops : Array Oper) (A : List (Nat × Bool)) (a : Act) : Prop := ∀ g ∈ A, ∃ t, (ops[g.1]?).bind (·.dst) = some t ∧ a.tmps.getD t undef = .bool g.2
def Away (ops : Array Oper) (A : List (Nat × Bool)) (l : List (Nat × Oper)) : Prop := ∀ x ∈ l, ∀ g ∈ A, ∀ t, (ops[g.1]?).bind (·.dst) = some t → x.2.dst ≠ some t

theorem Held.put {nt : Nat} {A : List (Nat × Bool)} {f : Fr} (h : Held nt ops A f) {d : Option Nat} {v : V} (hd : ∀ g ∈ A, ∀ t, (ops[g.1]?).bind (·.dst) = some t → d ≠ some t) : Held nt ops A (frPut f d v) := by
  intro g hg
  obtain ⟨t, h1, h0, h2⟩ := h g hg
  exact ⟨t, h1, h0, by rw [frPut_ne (hd g hg t h1)]; exact h2⟩

theorem dstOk_lt {o : Oper} (h : dstOk E o = true) : ∀ d, o.dst = some d → d < E.fn.ntmps := by
  intro d hd
  simp only [dstOk, hd] at h
  rw [Nat.blt_eq] at h; exact h

theorem yielded_of {a : Act} {j t : Nat} {b : Bool} (h : (ops[j]?).bind (·.dst) = some t) (hb : a.tmps.getD t undef = .bool b) : yielded ops a.tmps j = some b := by
  simp only [yielded, h, Option.bind_some]
  have : a.tmps[t]? = some (.bool b) := by
    rw [Array.getD_eq_getD_getElem?] at hb
    cases e : a.tmps[t]? with
    | none => rw [e] at hb; simp [undef] at hb
    | some x => rw [e] at hb; simpa using hb
  rw [this]

theorem wanted_of {a : Act} {o : Oper} {A : List (Nat × Bool)} (ho : guardOf o A = none) (hA : HeldA ops A a) :
    Region.wanted o (yielded ops a.tmps) = true := by
  unfold guardOf at ho
  unfold Region.wanted
  split at ho
  · rename_i hg; simp [hg]
  · rename_i g hg
    split at ho
    · rename_i hmem
      obtain ⟨t, h1, h2⟩ := hA g (by simpa using hmem)
      simp only [hg]
      rw [yielded_of h1 h2]
      simp
    · cases ho
theorem HeldA.put {A : List (Nat × Bool)} {a : Act} (h : HeldA ops A a) {d : Option Nat} {y : Value} (hs : ∀ t, d = some t → t < a.tmps.size) (hd : ∀ g ∈ A, ∀ t, (ops[g.1]?).bind (·.dst) = some t → d ≠ some t) : HeldA ops A (a.put d y) := by
  intro g hg
  obtain ⟨t, h1, h2⟩ := h g hg
  refine ⟨t, h1, ?_⟩
  cases d with
  | none => exact h2
  | some d =>
    rw [put_getD (hs d rfl), if_neg fun e => hd g hg t h1 (by rw [e])]
    exact h2
def Dead (ops : Array Oper) (f : Fr) (o : Oper) : Prop := ∃ g, o.guard = some g ∧ ∀ t, (ops[g.1]?).bind (·.dst) = some t → f t = .tup [] ∨ f t = .pv (.bool (!g.2))

theorem rep_undef {P : Program} {μ : Ro} {φ : Nat → Phys} {x : Value} (h : RepV P μ φ (.tup []) x) : x = undef := by
  cases h with
  | @tup _ xs h1 _ =>
    have : xs = #[] := Array.eq_empty_of_size_eq_zero (by simpa using h1.symm)
    subst this; rfl
theorem rep_undef' {P : Program} {μ : Ro} {φ : Nat → Phys} : RepV P μ φ (.tup []) undef := .tup rfl (by simp)

theorem dead_unwanted {nt : Nat} {μ : Ro} {φ : Nat → Phys} {f : Fr} {m : Mem} {a : Act} {w : World} (h : Rel E.P E.glob nt w0 μ φ f m a w) {o : Oper} (hd : Dead ops f o) : Region.wanted o (yielded ops a.tmps) = false := by
  obtain ⟨g, hg, ht⟩ := hd
  simp only [Region.wanted, hg]
  cases hs : (ops[g.1]?).bind (·.dst) with
  | none => simp [yielded, hs]
  | some t =>
    have hy : nt ≤ t → yielded ops a.tmps g.1 = none := fun hle => by
      simp only [yielded, hs, Option.bind_some]
      rw [Array.getElem?_eq_none (by rw [h.size]; exact hle)]
    by_cases hge : nt ≤ t
    · rw [hy hge]; rfl
    have hlt : t < nt := Nat.lt_of_not_le hge
    have h3 := h.fr t
    rw [slots_lt hlt] at h3
    rcases ht t hs with e | e
    · rw [e] at h3
      have h4 := rep_undef h3
      have : yielded ops a.tmps g.1 = none := by
        simp only [yielded, hs, Option.bind_some]
        rw [Array.getD_eq_getD_getElem?] at h4
        cases e : a.tmps[t]? with
        | none => rfl
        | some x =>
          rw [e] at h4
          simp only [Option.getD_some] at h4
          subst h4; rfl
      rw [this]; rfl
    · rw [e] at h3
      rw [yielded_of hs (rep_bool h3)]
      cases g.2 <;> rfl

theorem skipAll_ne {t : Nat} : ∀ {l : List (Nat × Oper)} {f : Fr}, (∀ x ∈ l, x.2.dst ≠ some t) → skipAll f l t = f t
  | [], _, _ => rfl
  | x :: r, f, h => by rw [skipAll, skipAll_ne (fun y hy => h y (by simp [hy])), frPut_ne (h x (by simp))]
theorem topAll_ne {t : Nat} : ∀ {l : List (Nat × Oper)} {f : Fr}, (∀ x ∈ l, x.2.dst ≠ some t) → topAll f l t = f t
  | [], _, _ => rfl
  | x :: r, f, h => by rw [topAll, topAll_ne (fun y hy => h y (by simp [hy])), frPut_ne (h x (by simp))]
theorem topAll_eq {t : Nat} : ∀ {l : List (Nat × Oper)} {f : Fr}, (f t = .top ∨ ∃ x ∈ l, x.2.dst = some t) → topAll f l t = .top
  | [], _, h => by
    rcases h with h | ⟨x, hx, _⟩
    · exact h
    · cases hx
  | x :: r, f, h => by
    rw [topAll]
    by_cases e : x.2.dst = some t
    · exact topAll_eq (.inl (by rw [e, frPut_eq]))
    · refine topAll_eq ?_
      rcases h with h | ⟨y, hy, hd⟩
      · exact .inl (by rw [frPut_ne e]; exact h)
      · rcases List.mem_cons.1 hy with rfl | hy
        · exact absurd hd e
        · exact .inr ⟨y, hy, hd⟩
theorem topAll_le {l : List (Nat × Oper)} {f F : Fr} (h : ∀ t, (∀ x ∈ l, x.2.dst ≠ some t) → f t = F t ∨ f t = .top) : FLe (topAll f l) F := by
  intro t
  by_cases e : ∃ x ∈ l, x.2.dst = some t
  · exact .inr (topAll_eq (.inr e))
  · have e' : ∀ x ∈ l, x.2.dst ≠ some t := fun x hx hd => e ⟨x, hx, hd⟩
    rw [topAll_ne e']; exact h t e'
theorem dead_all {g : Nat × Bool} {tj : Nat} (hj : (ops[g.1]?).bind (·.dst) = some tj) : ∀ {l : List (Nat × Oper)} {done : List Nat} {f : Fr}, guardsIn g done l = true → (∀ x ∈ l, ops[x.1]? = some x.2) → (∀ x ∈ l, x.2.dst ≠ some tj) →
    f tj = .pv (.bool (!g.2)) → (∀ j ∈ done, ∀ t, (ops[j]?).bind (·.dst) = some t → f t = .tup []) → ∀ (pre post : List (Nat × Oper)) (x : Nat × Oper), l = pre ++ x :: post → Dead ops (skipAll f pre) x.2
  | [], _, _, _, _, _, _, _, pre, post, x, h => by
    simp at h
  | y :: r, done, f, hg, hl, hd, hb, hdn, pre, post, x, h => by
    simp only [guardsIn, Bool.and_eq_true] at hg
    cases pre with
    | nil =>
      simp only [List.nil_append, List.cons.injEq] at h
      obtain ⟨rfl, rfl⟩ := h
      rw [skipAll]
      have h1 := hg.1
      split at h1
      · rename_i hh hgd
        refine ⟨hh, hgd, fun t ht => ?_⟩
        rcases Bool.or_eq_true_iff.1 h1 with h2 | h2
        · simp only [Bool.and_eq_true] at h2
          have e1 := Nat.eq_of_beq_eq_true h2.1
          have e2 : hh.2 = g.2 := by simpa using h2.2
          rw [e1] at ht
          rw [hj] at ht; cases ht
          exact .inr (by rw [e2]; exact hb)
        · exact .inl (hdn _ (by simpa using h2) t ht)
      · cases h1
    | cons z pre =>
      simp only [List.cons_append, List.cons.injEq] at h
      obtain ⟨rfl, h⟩ := h
      rw [skipAll]
      refine dead_all hj hg.2 (fun x hx => hl x (by simp [hx])) (fun x hx => hd x (by simp [hx])) (by rw [frPut_ne (hd y (by simp))]; exact hb) (fun j hjm t ht => ?_) pre post x h
      by_cases e : y.2.dst = some t
      · rw [e, frPut_eq]
      · rw [frPut_ne e]
        rcases List.mem_cons.1 hjm with rfl | hjm
        · rw [hl y (by simp)] at ht
          exact absurd ht e
        · exact hdn j hjm t ht

theorem spanG_ok {A : List (Nat × Bool)} : ∀ {l a b : List (Nat × Oper)}, spanG A l = (a, b) → l = a ++ b
  | [], a, b, h => by simp [spanG] at h; obtain ⟨rfl, rfl⟩ := h; rfl
  | x :: r, a, b, h => by
    simp only [spanG] at h
    split at h
    · cases hs : spanG A r with
      | mk a' b' =>
        rw [hs] at h
        simp only [Prod.mk.injEq] at h
        obtain ⟨rfl, rfl⟩ := h
        rw [spanG_ok hs]; rfl
    · simp only [Prod.mk.injEq] at h
      obtain ⟨rfl, rfl⟩ := h; rfl

theorem boolV_ok {v : V} {b : Bool} (h : boolV v = some b) : v = .pv (.bool b) := by
  unfold boolV at h
  split at h
  · cases h; rfl
  · cases h
theorem op_at (hE : EnvOk E) {site : Nat} {draw : Bool} {o : Oper} {f : Fr} {m : Mem} {v : V} {f' : Fr} {m' : Mem} {ft : Foot}
    (hn : draw = true ∨ ∃ c x y, o.op = .pick c x y)
    (h : ∀ (R' : Type) (k' : V → Fr → Mem → Foot → Option R'), xop E draw site o f m k' = k' v f' m' ft) : OpOk E draw site o f m v f' m' ft := by
  have hx := xop_ok hE (h (V × Fr × Mem × Foot) fun v f m ft => some (v, f, m, ft))
  rcases hx with ⟨v1, f1, m1, ft1, h1, h2⟩ | ⟨h1, h2, _⟩
  rotate_left
  · rcases hn with hn | ⟨c, x, y, hn⟩
    · rw [hn] at h1; cases h1
    · exact absurd hn (h2 c x y)
  simp only [Option.some.injEq, Prod.mk.injEq] at h1
  obtain ⟨rfl, rfl, rfl, rfl⟩ := h1
  exact h2

theorem xop_pick {R : Type} {site : Nat} {draw : Bool} {p : Oper} {c : Nat} {x y : Operand} {b : Bool} {f : Fr} {m : Mem} {k : V → Fr → Mem → Foot → Option R} (hp : p.op = .pick (.tmp c) x y) (hb : opd E f (.tmp c) = .pv (.bool b)) :
    xop E draw site p f m k = k (opd E f (if b then x else y)) f m [] := by
  have hsp : spOf E site p f m = none := by simp only [spOf, hp]
  unfold xop
  rw [hsp]
  have e : (bif draw then none else bif E.nst site then (none : Option Sp) else none) = none := by cases draw <;> cases E.nst site <;> rfl
  rw [e]
  simp only [xop1, hp, hb]
  cases b <;> rfl
end
end Go.Ab

set_option linter.unusedVariables false
namespace Go.Ab
open Go.RowKit (Below)
section
variable {E : Env} {ops : Array Oper} {w0 : Base}
theorem wpOps_skip' {rd : Option Nat} {Q : Exit → Act → World → Prop} {tail : List Nat} : ∀ (l : List (Nat × Oper)) (f : Fr), (∀ x ∈ l, ops[x.1]? = some x.2) → (∀ x ∈ l, dstOk E x.2 = true) → (∀ (pre post : List (Nat × Oper)) (x : Nat × Oper), l = pre ++ x :: post → Dead ops (skipAll f pre) x.2) →
    ∀ {μ : Ro} {φ : Nat → Phys} {m : Mem} {a : Act} {w : World}, Rel E.P E.glob E.fn.ntmps w0 μ φ f m a w → ∀ (A : List (Nat × Bool)), HeldA ops A a → Away ops A l → (∀ a', Rel E.P E.glob E.fn.ntmps w0 μ φ (skipAll f l) m a' w → HeldA ops A a' → wpOpsIn (FR rd) 0 E.P ops Q tail a' w) → wpOpsIn (FR rd) 0 E.P ops Q (l.map (·.1) ++ tail) a w
  | [], f, _, _, _, _, _, _, a, _, hR, _, hA, _, hK => hK a hR hA
  | x :: r, f, hl, hd, hdead, μ, φ, m, a, w, hR, A, hA, haw, hK => by
    simp only [List.map_cons, List.cons_append, wpOpsIn]
    rw [hl x (by simp)]
    simp only
    rw [dead_unwanted hR (hdead [] r x rfl)]
    simp only [Bool.false_eq_true, if_false]
    refine And.intro (fun _ _ => trivial) (wpOps_skip' r (frPut f x.2.dst (.tup [])) (fun y hy => hl y (by simp [hy])) (fun y hy => hd y (by simp [hy])) (fun pre post y h => ?_) (hR.put (fun _ _ h => h) (dstOk_lt (hd x (by simp))) hR.toRelM hR.frOk rep_undef' (fun id hid => by simp [V.has, hasL] at hid)) A
      (hA.put (fun t ht => by rw [hR.size]; exact dstOk_lt (hd x (by simp)) t ht) fun g hgm t ht => haw x (by simp) g hgm t ht) (fun y hy => haw y (by simp [hy])) hK)
    have := hdead (x :: pre) post y (by rw [h]; rfl)
    rwa [skipAll] at this

theorem quietFt_ok : ∀ {ft : Foot}, quietFt ft = true → ∀ x ∈ ft, x.1 = false
  | [], _, x, hx => by cases hx
  | (w, id) :: r, h, x, hx => by
    simp only [quietFt, Bool.and_eq_true, Bool.not_eq_true'] at h
    rcases List.mem_cons.1 hx with rfl | hx
    · exact h.1
    · exact quietFt_ok h.2 x hx

theorem evalOps_seq (hE : EnvOk E) {rd : Option Nat} (hY : YlOk E.P E.glob E.fn.ntmps E.yl w0) : ∀ (fuel : Nat) {mode : Nat} (hmode : mode = 0 ∨ mode = 3) {R : Type} {A : List (Nat × Bool)} {l : List (Nat × Oper)} {f : Fr} {m : Mem} {lg : Log} {k : Fr → Mem → Option R} {r : R}, evalOps E ops mode fuel R A l f m lg k = some r →
    (∀ x ∈ l, ops[x.1]? = some x.2) → Away ops A l → (mode = 3 → ∀ x ∈ l, readKind x.2 = true) →
    ∀ (μ : Ro) (φ : Nat → Phys) (a : Act) (w : World) (Q : Exit → Act → World → Prop) (tail : List Nat), Rel E.P E.glob E.fn.ntmps w0 μ φ f m a w → HeldA ops A a →
      (∀ (f' : Fr) (m' : Mem) (μ' : Ro) (φ' : Nat → Phys) (a' : Act) (w' : World), k f' m' = some r → Rel E.P E.glob E.fn.ntmps w0 μ' φ' f' m' a' w' → HeldA ops A a' →
        (mode = 3 → m' = m ∧ ∀ t, (∀ x ∈ l, x.2.dst ≠ some t) → f' t = f t) → wpOpsIn (FR rd) 0 E.P ops Q tail a' w') → wpOpsIn (FR rd) 0 E.P ops Q (l.map (·.1) ++ tail) a w
  | 0, _, _, _, _, _, _, _, _, _, _, h, _, _, _, _, _, _, _, _, _, _, _, _ => by simp [evalOps] at h
  | fuel + 1, mode, hmode, R, A, [], f, m, lg, k, r, h, _, _, _, μ, φ, a, w, Q, tail, hR, hA, hK => by
    simp only [evalOps] at h
    exact hK f m μ φ a w h hR hA fun _ => ⟨rfl, fun _ _ => rfl⟩
  | fuel + 1, mode, hmode, R, A, (i, o) :: rest, f, m, lg, k, r, h, hl, haw, hrk, μ, φ, a, w, Q, tail, hR, hA, hK => by
    simp only [evalOps] at h
    split at h
    · rename_i hg
      split at h
      · rename_i hd
        have hmm : Nat.beq mode 2 = false := by rcases hmode with rfl | rfl <;> rfl
        simp only [hmm, cond_false] at h
        rw [← hmm] at h
        have hdf := xop_defer h
        rcases xop_ok hE h with ⟨v, f1, m1, ft, hk, hop⟩ | ⟨_, hin⟩
        rotate_left
        · simp only [List.map_cons, List.cons_append, wpOpsIn]
          rw [hl (i, o) (by simp)]
          simp only
          rw [wanted_of hg hA, if_pos rfl]
          refine OpIn.soundR hin rd w0 μ φ a w _ Q hY hR fun v f1 m1 y w' μ' φ' hk hle hM hF hv hlv => ?_
          have hm2 : Nat.beq mode 2 = false := by rcases hmode with rfl | rfl <;> rfl
          rw [hm2] at hk
          simp only [Bool.false_eq_true, if_false] at hk
          rcases hmode with rfl | rfl
          · simp only [Nat.beq, if_true] at hk
            exact evalOps_seq hE hY fuel (.inl rfl) hk (fun x hx => hl x (by simp [hx])) (fun x hx => haw x (by simp [hx])) (fun hm x hx => hrk hm x (by simp [hx])) _ _ _ _ Q tail (hR.put hle (dstOk_lt hd) hM hF hv hlv)
              (hA.put (fun t ht => by rw [hR.size]; exact dstOk_lt hd t ht) fun g hgm t ht => haw (i, o) (by simp) g hgm t ht) fun f' m' μ2 φ2 a' w2 hk' hR' hA' hro => hK f' m' μ2 φ2 a' w2 hk' hR' hA' fun h => by cases h
          · simp [Nat.beq, quietFt] at hk
        have hm2 : Nat.beq mode 2 = false := by rcases hmode with rfl | rfl <;> rfl
        rw [hm2] at hk
        simp only [Bool.false_eq_true, if_false] at hk
        have hq : (mode = 3 → f1 = f ∧ m1 = m) ∧ evalOps E ops mode fuel R A rest (frPut f1 o.dst v) m1 lg k = some r := by
          rcases hmode with rfl | rfl
          · simp only [Nat.beq, if_true] at hk
            exact ⟨fun h => (by cases h), hk⟩
          · simp only [Nat.beq, Bool.false_eq_true, if_false] at hk
            split at hk
            · rename_i hqf
              exact ⟨fun h => hop.same (hrk rfl (i, o) (by simp)) (quietFt_ok hqf), hk⟩
            · cases hk
        obtain ⟨hsame, hk⟩ := hq
        simp only [List.map_cons, List.cons_append, wpOpsIn]
        rw [hl (i, o) (by simp)]
        simp only
        rw [wanted_of hg hA, if_pos rfl]
        refine hop.soundR hdf rd w0 μ φ a w _ Q hR fun y w' μ' φ' hle hM hF hv hlv => ?_
        refine evalOps_seq hE hY fuel hmode hk (fun x hx => hl x (by simp [hx])) (fun x hx => haw x (by simp [hx])) (fun hm x hx => hrk hm x (by simp [hx])) _ _ _ _ Q tail (hR.put hle (dstOk_lt hd) hM hF hv hlv)
          (hA.put (fun t ht => by rw [hR.size]; exact dstOk_lt hd t ht) fun g hgm t ht => haw (i, o) (by simp) g hgm t ht) fun f' m' μ2 φ2 a' w2 hk' hR' hA' hro => ?_
        refine hK f' m' μ2 φ2 a' w2 hk' hR' hA' fun hm3 => ?_
        obtain ⟨e1, e2⟩ := hsame hm3
        obtain ⟨e3, e4⟩ := hro hm3
        refine ⟨by rw [e3, e2], fun t ht => ?_⟩
        rw [e4 t fun x hx => ht x (by simp [hx]), frPut_ne (ht (i, o) (by simp)), e1]
      · cases h
    · rename_i j pol hg
      split at h
      · rename_i tj htj
        split at h
        · rename_i b hb
          have htlt : tj < E.fn.ntmps := by
            simp only [opd] at hb
            cases e : Nat.blt tj E.fn.ntmps with
            | true => rwa [Nat.blt_eq] at e
            | false => rw [e] at hb; cases hb
          have hbf : f tj = .pv (.bool b) := by
            simp only [opd] at hb
            rw [show Nat.blt tj E.fn.ntmps = true by rw [Nat.blt_eq]; exact htlt] at hb; exact hb
          have hba : a.tmps.getD tj undef = .bool b := by
            have := (opd_rep hR (.tmp tj)).1
            rw [hb] at this
            exact rep_bool this
          generalize hsp : spanG A ((i, o) :: rest) = sp at h
          obtain ⟨body, rest1⟩ := sp
          have hsplit := spanG_ok hsp
          simp only at h
          split at h
          · -- a group with calls that are walked in place
            rename_i hloud
            split at h
            · rename_i hc
              simp only [Bool.and_eq_true, List.all_eq_true, Bool.not_eq_true', beq_eq_false_iff_ne, ne_eq] at hc hloud
              obtain ⟨⟨hbd, hgi⟩, haway⟩ := hc
              have hm0 : mode = 0 := Nat.eq_of_beq_eq_true hloud.1
              subst hm0
              have hmem : ∀ z ∈ body, z ∈ (i, o) :: rest := fun z hz => by rw [hsplit]; simp [hz]
              have hmemr : ∀ z ∈ rest1, z ∈ (i, o) :: rest := fun z hz => by rw [hsplit]; simp [hz]
              by_cases hbp : b = pol
              · have : sameB pol b = true := by subst hbp; cases b <;> rfl
                rw [this] at h
                simp only [cond] at h
                have hfs : frSet f tj (.pv (.bool pol)) = f := funext fun t => by
                  unfold frSet
                  cases e : Nat.beq t tj with
                  | false => rfl
                  | true => rw [Nat.eq_of_beq_eq_true e]; simp only [cond]; rw [← hbp]; exact hbf.symm
                rw [hfs] at h
                refine evalOps_seq hE hY fuel hmode h hl (fun z hz g hgm t ht => ?_) (fun h => by cases h) _ _ _ _ Q tail hR (fun g hgm => ?_) fun f' m' μ2 φ2 a' w2 hk' hR' hA' hro => hK f' m' μ2 φ2 a' w2 hk' hR' (fun g hgm => hA' g (by simp [hgm])) fun h => by cases h
                · rcases List.mem_cons.1 hgm with rfl | hgm
                  · simp only [htj] at ht
                    cases ht
                    exact haway z hz
                  · exact haw z hz g hgm t ht
                · rcases List.mem_cons.1 hgm with rfl | hgm
                  · exact ⟨tj, htj, by rw [hba, hbp]⟩
                  · exact hA g hgm
              · have : sameB pol b = false := by cases b <;> cases pol <;> first | rfl | exact absurd rfl hbp
                rw [this] at h
                simp only [cond] at h
                have hbn : b = !pol := by cases b <;> cases pol <;> first | rfl | exact absurd rfl hbp
                have hfs : frSet f tj (.pv (.bool !pol)) = f := funext fun t => by
                  unfold frSet
                  cases e : Nat.beq t tj with
                  | false => rfl
                  | true => rw [Nat.eq_of_beq_eq_true e]; simp only [cond]; rw [← hbn]; exact hbf.symm
                rw [hfs] at h
                rw [hsplit, List.map_append, List.append_assoc]
                refine wpOps_skip' body f (fun z hz => hl z (hmem z hz)) hbd (dead_all htj hgi (fun z hz => hl z (hmem z hz)) (fun z hz => haway z (hmem z hz)) (by rw [hbf, hbn]) (by simp)) hR A hA (fun z hz g hgm t ht => haw z (hmem z hz) g hgm t ht) fun a' hR' hA' => ?_
                · refine evalOps_seq hE hY fuel hmode h (fun z hz => hl z (hmemr z hz)) (fun z hz => haw z (hmemr z hz)) (fun h => by cases h) _ _ _ _ Q tail hR' hA' fun f' m' μ2 φ2 a' w2 hk' hR' hA' hro => hK f' m' μ2 φ2 a' w2 hk' hR' hA' fun h => by cases h
            · cases h
          · split at h
            · rename_i ip p rest'
              split at h
              · rename_i c x y hpop
                split at h
                · rename_i hc
                  simp only [Bool.and_eq_true, List.all_eq_true, Bool.not_eq_true', beq_eq_false_iff_ne, ne_eq] at hc
                  obtain ⟨⟨⟨⟨⟨⟨hctj, hpg⟩, hbody⟩, hgi⟩, _⟩, hpd⟩, _⟩ := hc
                  have hctj := Nat.eq_of_beq_eq_true hctj
                  subst hctj
                  have hpg : guardOf p A = none := by simpa using hpg
                  obtain ⟨rb, hrb, h⟩ := Option.bind_eq_some_iff.1 h
                  have hmem : ∀ z ∈ body, z ∈ (i, o) :: rest := fun z hz => by rw [hsplit]; simp [hz]
                  have hmemr : ∀ z ∈ rest', z ∈ (i, o) :: rest := fun z hz => by rw [hsplit]; simp [hz]
                  have hmemp : (ip, p) ∈ (i, o) :: rest := by rw [hsplit]; simp
                  rw [hsplit, List.map_append, List.append_assoc]
                  -- what comes behind the group
                  have after : ∀ (f1 : Fr) (μ1 : Ro) (φ1 : Nat → Phys) (a1 : Act) (w1 : World) (q : Operand), Rel E.P E.glob E.fn.ntmps w0 μ1 φ1 f1 m a1 w1 → HeldA ops A a1 → (∀ t, (∀ z ∈ body, z.2.dst ≠ some t) → f1 t = f t) → opd E f1 q = .pv (.bool rb) →
                      (q = if b then x else y) → wpOpsIn (FR rd) 0 E.P ops Q (((ip, p) :: rest').map (·.1) ++ tail) a1 w1 := by
                    intro f1 μ1 φ1 a1 w1 q hR1 hA1 hf1 hq hqe
                    have hb1 : opd E f1 (.tmp c) = .pv (.bool b) := by
                      simp only [opd]
                      rw [show Nat.blt c E.fn.ntmps = true by rw [Nat.blt_eq]; exact htlt]
                      show f1 c = _
                      rw [hf1 c fun z hz => (hbody z hz).2]; exact hbf
                    simp only [List.map_cons, List.cons_append, wpOpsIn]
                    rw [hl (ip, p) hmemp]
                    simp only
                    rw [wanted_of hpg hA1, if_pos rfl]
                    have hop : OpOk E (Nat.beq mode 1 || Nat.beq mode 2) (siteOf E p.dst) p f1 m (.pv (.bool rb)) f1 m [] := op_at hE (.inr ⟨_, _, _, hpop⟩) fun R' k' => by
                      rw [xop_pick hpop hb1, ← hqe, hq]
                    refine hop.soundR (fun c h => by rw [hpop] at h; cases h) rd w0 μ1 φ1 a1 w1 _ Q hR1 fun z w' μ' φ' hro hM hF hv hlv => ?_
                    have hle : FLe (frPut (topAll f body) p.dst (.pv (.bool rb))) (frPut f1 p.dst (.pv (.bool rb))) := FLe.put (topAll_le fun t ht => .inl (hf1 t ht).symm) _ _
                    refine evalOps_seq hE hY fuel hmode h (fun z hz => hl z (hmemr z hz)) (fun z hz => haw z (hmemr z hz)) (fun hm z hz => hrk hm z (hmemr z hz)) _ _ _ _ Q tail ((hR1.put hro (dstOk_lt hpd) hM hF hv hlv).weaken hle)
                      (hA1.put (fun t ht => by rw [hR1.size]; exact dstOk_lt hpd t ht) fun g hgm t ht => haw (ip, p) hmemp g hgm t ht) fun f' m' μ2 φ2 a' w2 hk' hR' hA' hro => ?_
                    refine hK f' m' μ2 φ2 a' w2 hk' hR' hA' fun hm3 => ?_
                    obtain ⟨e3, e4⟩ := hro hm3
                    refine ⟨e3, fun t ht => ?_⟩
                    rw [e4 t fun z hz => ht z (hmemr z hz), frPut_ne (ht (ip, p) hmemp), topAll_ne fun z hz => ht z (hmem z hz)]
                  -- the group is carried out
                  have go : ∀ q, b = pol → (q = if b then x else y) → evalOps E ops 3 fuel Bool ((j, pol) :: A) body f m lg (fun f _ => boolV (opd E f q)) = some rb → wpOpsIn (FR rd) 0 E.P ops Q (body.map (·.1) ++ (((ip, p) :: rest').map (·.1) ++ tail)) a w := by
                    intro q hbp hq hev
                    refine evalOps_seq hE hY fuel (.inr rfl) hev (fun z hz => hl z (hmem z hz)) ?_ (fun _ z hz => (hbody z hz).1.1) _ _ _ _ Q _ hR ?_ fun f' m' μ2 φ2 a' w2 hk' hR' hA' hro => ?_
                    · intro z hz g hgm t ht
                      rcases List.mem_cons.1 hgm with rfl | hgm
                      · simp only [htj] at ht
                        cases ht
                        exact (hbody z hz).2
                      · exact haw z (hmem z hz) g hgm t ht
                    · intro g hgm
                      rcases List.mem_cons.1 hgm with rfl | hgm
                      · exact ⟨c, htj, by rw [hba, hbp]⟩
                      · exact hA g hgm
                    · obtain ⟨e1, e2⟩ := hro rfl
                      subst e1
                      exact after f' μ2 φ2 a' w2 q hR' (fun g hgm => hA' g (by simp [hgm])) e2 (boolV_ok hk') hq
                  -- the group is left out
                  have no : ∀ q, b = !pol → (q = if b then x else y) → boolV (opd E (topAll f body) q) = some rb → wpOpsIn (FR rd) 0 E.P ops Q (body.map (·.1) ++ (((ip, p) :: rest').map (·.1) ++ tail)) a w := by
                    intro q hbp hq hev
                    refine wpOps_skip' body f (fun z hz => hl z (hmem z hz)) (fun z hz => (hbody z hz).1.2) (dead_all htj hgi (fun z hz => hl z (hmem z hz)) (fun z hz => (hbody z hz).2) (by rw [hbf, hbp]) (by simp)) hR A hA (fun z hz g hgm t ht => haw z (hmem z hz) g hgm t ht) fun a' hR' hA' => ?_
                    refine after _ μ φ a' w q hR' hA' (fun t ht => skipAll_ne ht) ?_ hq
                    have hv := boolV_ok hev
                    cases q with
                    | tmp t =>
                      simp only [opd] at hv ⊢
                      have hle : FLe (topAll f body) (skipAll f body) := topAll_le fun t ht => .inl (skipAll_ne ht).symm
                      cases e : Nat.blt t E.fn.ntmps with
                      | false => rw [e] at hv; cases hv
                      | true =>
                        rw [e] at hv
                        simp only [cond] at hv ⊢
                        rcases hle t with e | e
                        · rw [← e]; exact hv
                        · rw [e] at hv; cases hv
                    | _ => exact hv
                  have hbm : (bif Nat.beq mode 0 then 3 else mode) = 3 := by rcases hmode with rfl | rfl <;> rfl
                  rw [hbm] at hrb
                  cases pol <;> cases b <;> simp only [cond] at hrb
                  · exact go y rfl rfl hrb
                  · exact no x rfl rfl hrb
                  · exact no y rfl rfl hrb
                  · exact go x rfl rfl hrb
                · cases h
              · cases h
            · cases h
        · cases h
      · cases h
end
end Go.Ab

set_option linter.unusedVariables false
namespace Go.Ab
open Go.RowKit (Below)
structure Rec where
  i : Nat
  o : Oper
  v : V
  wr : List (Nat × Blk)
  ft : Foot
  kl : Kl
def Rec.fs (r : Rec) (f : Fr) : Fr := frPut (kf r.kl f) r.o.dst r.v
def Rec.ms (r : Rec) (m : Mem) : Mem := wrM r.wr (km r.kl m)
def Rec.kills (r : Rec) (id : Nat) : Prop := ∃ b, (b, id) ∈ r.kl

def fAll (f : Fr) : List Rec → Fr
  | [] => f
  | r :: l => fAll (r.fs f) l
def mAll (m : Mem) : List Rec → Mem
  | [] => m
  | r :: l => mAll (r.ms m) l
def fSel (S : Nat → Bool) (f : Fr) : List Rec → Fr
  | [] => f
  | r :: l => fSel S (bif S r.i then r.fs f else f) l
def mSel (S : Nat → Bool) (m : Mem) : List Rec → Mem
  | [] => m
  | r :: l => mSel S (bif S r.i then r.ms m else m) l

theorem wrM_ne : ∀ {wr : List (Nat × Blk)} {m : Mem} {j : Nat}, (∀ b, (j, b) ∉ wr) → wrM wr m j = m j
  | [], _, _, _ => rfl
  | (id, b) :: r, m, j, h => by
    rw [wrM, wrM_ne fun b' hb => h b' (by simp [hb])]
    exact memSet_ne fun e => h b (by simp [e])
theorem wrM_in : ∀ {wr : List (Nat × Blk)} {j : Nat}, (∃ b, (j, b) ∈ wr) → ∃ b', (j, b') ∈ wr ∧ ∀ m : Mem, wrM wr m j = some b'
  | [], _, h => by obtain ⟨b, hb⟩ := h; cases hb
  | (id, b) :: r, j, h => by
    by_cases hr : ∃ b, (j, b) ∈ r
    · obtain ⟨b', h1, h2⟩ := wrM_in hr
      exact ⟨b', by simp [h1], fun m => h2 _⟩
    · obtain ⟨b0, hb⟩ := h
      rcases List.mem_cons.1 hb with hb | hb
      · simp only [Prod.mk.injEq] at hb
        obtain ⟨rfl, rfl⟩ := hb
        refine ⟨b0, by simp, fun m => ?_⟩
        rw [wrM, wrM_ne fun b' hb' => hr ⟨b', hb'⟩]
        simp
      · exact absurd ⟨b0, hb⟩ hr

mutual
theorem has2_has {id : Nat} : ∀ {v : V}, v.has2 id = true → v.has id = true
  | .agg cs, h => hasL2_hasL (cs := cs) (by simpa [V.has2] using h)
  | .tup cs, h => hasL2_hasL (cs := cs) (by simpa [V.has2] using h)
  | .fn _ cs, h => hasL2_hasL (cs := cs) (by simpa [V.has2] using h)
  | .os2 _ _ _, h => h
  | .oe2 _ _ _ _ _ _, h => h
  | .pv _, h => by cases h
  | .nils, h => by cases h
  | .op _ _, h => by cases h
  | .oe _ _ _, h => by cases h
  | .os _, h => by cases h
  | .osub _ _ _, h => by cases h
  | .om _, h => by cases h
  | .yl _, h => by cases h
  | .it _, h => by cases h
  | .top, h => by cases h
theorem hasL2_hasL {id : Nat} : ∀ {cs : List V}, hasL2 id cs = true → hasL id cs = true
  | [], h => by cases h
  | c :: r, h => by
    simp only [hasL2, Bool.or_eq_true] at h
    simp only [hasL, Bool.or_eq_true]
    rcases h with h | h
    · exact .inl (has2_has h)
    · exact .inr (hasL2_hasL h)
end
theorem killV_clean {id : Nat} {v : V} (h : v.has id = false) : killV id v = v := by unfold killV; rw [h]; rfl
theorem killL_clean {id : Nat} : ∀ {cs : List V}, hasL id cs = false → cs.map (killV id) = cs
  | [], _ => rfl
  | c :: r, h => by
    simp only [hasL, Bool.or_eq_false_iff] at h
    simp only [List.map_cons, killV_clean h.1, killL_clean h.2]
theorem killB_clean {id : Nat} {b : Blk} (h : b.names id = false) : killB id b = b := by
  cases b with
  | box cs => simp only [killB, killL_clean (show hasL id cs = false from h)]
  | _ => rfl
theorem kill2V_clean {id : Nat} {v : V} (h : v.has id = false) : kill2V id v = v := by
  unfold kill2V
  cases h2 : v.has2 id with
  | false => rfl
  | true => rw [has2_has h2] at h; cases h
theorem kill2L_clean {id : Nat} : ∀ {cs : List V}, hasL id cs = false → cs.map (kill2V id) = cs
  | [], _ => rfl
  | c :: r, h => by
    simp only [hasL, Bool.or_eq_false_iff] at h
    simp only [List.map_cons, kill2V_clean h.1, kill2L_clean h.2]
theorem kill2B_clean {id : Nat} {b : Blk} (h : b.names id = false) : kill2B id b = b := by
  cases b with
  | box cs => simp only [kill2B, kill2L_clean (show hasL id cs = false from h)]
  | _ => rfl
theorem kf_clean : ∀ {kl : Kl} {f : Fr} {t : Nat}, (∀ id, (∃ b, (b, id) ∈ kl) → (f t).has id = false) → kf kl f t = f t
  | [], _, _, _ => rfl
  | (true, id) :: r, f, t, h => by
    have h0 : killF id f t = f t := killV_clean (h id ⟨true, by simp⟩)
    rw [kf, kf_clean (kl := r) (f := killF id f) fun j hj => by rw [h0]; exact h j (let ⟨b, hb⟩ := hj; ⟨b, by simp [hb]⟩), h0]
  | (false, id) :: r, f, t, h => by
    have h0 : kill2F id f t = f t := kill2V_clean (h id ⟨false, by simp⟩)
    rw [kf, kf_clean (kl := r) (f := kill2F id f) fun j hj => by rw [h0]; exact h j (let ⟨b, hb⟩ := hj; ⟨b, by simp [hb]⟩), h0]
theorem kf_congr : ∀ {kl : Kl} {f g : Fr} {t : Nat}, f t = g t → kf kl f t = kf kl g t
  | [], _, _, _, h => h
  | (true, id) :: r, f, g, t, h => kf_congr (kl := r) (f := killF id f) (g := killF id g) (by simp only [killF, h])
  | (false, id) :: r, f, g, t, h => kf_congr (kl := r) (f := kill2F id f) (g := kill2F id g) (by simp only [kill2F, h])
theorem km_clean : ∀ {kl : Kl} {m : Mem} {j : Nat}, (∀ id, (∃ b, (b, id) ∈ kl) → j ≠ id ∧ ∀ b, m j = some b → b.names id = false) → km kl m j = m j
  | [], _, _, _ => rfl
  | (true, id) :: r, m, j, h => by
    obtain ⟨h1, h2⟩ := h id ⟨true, by simp⟩
    have h0 : memDel (killM id m) id j = m j := by
      rw [memDel_ne h1]
      unfold killM
      cases hm : m j with
      | none => rfl
      | some b => simp only [killB_clean (h2 b hm)]
    rw [km, km_clean (kl := r) (m := memDel (killM id m) id) fun i hi => by rw [h0]; exact h i (let ⟨b, hb⟩ := hi; ⟨b, by simp [hb]⟩), h0]
  | (false, id) :: r, m, j, h => by
    obtain ⟨h1, h2⟩ := h id ⟨false, by simp⟩
    have h0 : kill2M id m j = m j := by
      unfold kill2M
      cases hm : m j with
      | none => rfl
      | some b => simp only [kill2B_clean (h2 b hm)]
    rw [km, km_clean (kl := r) (m := kill2M id m) fun i hi => by rw [h0]; exact h i (let ⟨b, hb⟩ := hi; ⟨b, by simp [hb]⟩), h0]
theorem km_congr : ∀ {kl : Kl} {m n : Mem} {j : Nat}, m j = n j → km kl m j = km kl n j
  | [], _, _, _, h => h
  | (true, id) :: r, m, n, j, h => km_congr (kl := r) (m := memDel (killM id m) id) (n := memDel (killM id n) id) (by
    by_cases e : j = id
    · subst e; simp
    · rw [memDel_ne e, memDel_ne e]; simp only [killM, h])
  | (false, id) :: r, m, n, j, h => km_congr (kl := r) (m := kill2M id m) (n := kill2M id n) (by simp only [kill2M, h])
theorem Rec.fs_eq {r : Rec} {f : Fr} {t : Nat} (h : r.o.dst = some t) : r.fs f t = r.v := by unfold Rec.fs; rw [h, frPut_eq]
theorem Rec.fs_ne {r : Rec} {f : Fr} {t : Nat} (h : r.o.dst ≠ some t) (hc : ∀ id, r.kills id → (f t).has id = false) : r.fs f t = f t := by
  unfold Rec.fs; rw [frPut_ne h]; exact kf_clean hc
theorem Rec.fs_congr {r : Rec} {f g : Fr} {t : Nat} (h : f t = g t) : r.fs f t = r.fs g t := by
  by_cases e : r.o.dst = some t
  · rw [fs_eq e, fs_eq e]
  · unfold Rec.fs; rw [frPut_ne e, frPut_ne e]; exact kf_congr h
theorem Rec.ms_in {r : Rec} {j : Nat} (h : ∃ b, (j, b) ∈ r.wr) : ∃ b', (j, b') ∈ r.wr ∧ ∀ m, r.ms m j = some b' := let ⟨b', h1, h2⟩ := wrM_in h; ⟨b', h1, fun m => h2 _⟩
theorem Rec.ms_ne {r : Rec} {m : Mem} {j : Nat} (h : ∀ b, (j, b) ∉ r.wr) (hc : ∀ id, r.kills id → j ≠ id ∧ ∀ b, m j = some b → b.names id = false) : r.ms m j = m j := by
  unfold Rec.ms; rw [wrM_ne h]; exact km_clean hc
theorem Rec.ms_congr {r : Rec} {m n : Mem} {j : Nat} (h : m j = n j) : r.ms m j = r.ms n j := by
  by_cases e : ∃ b, (j, b) ∈ r.wr
  · obtain ⟨b, _, e⟩ := Rec.ms_in e; rw [e, e]
  · have e' : ∀ b, (j, b) ∉ r.wr := fun b hb => e ⟨b, hb⟩
    unfold Rec.ms; rw [wrM_ne e', wrM_ne e']; exact km_congr h

section
variable {S S' : Nat → Bool}

theorem fAll_append {f : Fr} : ∀ {l l' : List Rec} , fAll f (l ++ l') = fAll (fAll f l) l' := by
  intro l
  induction l generalizing f with
  | nil => intro l'; rfl
  | cons r l ih => intro l'; exact ih
theorem mAll_append {m : Mem} : ∀ {l l' : List Rec} , mAll m (l ++ l') = mAll (mAll m l) l' := by
  intro l
  induction l generalizing m with
  | nil => intro l'; rfl
  | cons r l ih => intro l'; exact ih
theorem fSel_append {f : Fr} : ∀ {l l' : List Rec} , fSel S f (l ++ l') = fSel S (fSel S f l) l' := by
  intro l
  induction l generalizing f with
  | nil => intro l'; rfl
  | cons r l ih => intro l'; exact ih
theorem mSel_append {m : Mem} : ∀ {l l' : List Rec} , mSel S m (l ++ l') = mSel S (mSel S m l) l' := by
  intro l
  induction l generalizing m with
  | nil => intro l'; rfl
  | cons r l ih => intro l'; exact ih

theorem fAll_none {t : Nat} : ∀ {l : List Rec} {f : Fr}, (∀ q ∈ l, q.o.dst ≠ some t ∧ q.kl = []) → fAll f l t = f t
  | [], _, _ => rfl
  | r :: l, f, h => by
    rw [fAll, fAll_none fun q hq => h q (by simp [hq])]
    obtain ⟨h1, h2⟩ := h r (by simp)
    exact Rec.fs_ne h1 fun id ⟨b, hid⟩ => by rw [h2] at hid; cases hid
theorem fSel_none {t : Nat} : ∀ {l : List Rec} {f : Fr}, (∀ q ∈ l, S q.i = true → q.o.dst ≠ some t ∧ ∀ id, q.kills id → (f t).has id = false) → fSel S f l t = f t
  | [], _, _ => rfl
  | r :: l, f, h => by
    have h0 : (bif S r.i then r.fs f else f) t = f t := by
      cases e : S r.i with
      | false => rfl
      | true => obtain ⟨h1, h2⟩ := h r (by simp) e; exact Rec.fs_ne h1 h2
    rw [fSel, fSel_none fun q hq hs => by rw [h0]; exact h q (by simp [hq]) hs, h0]
theorem fSel_all {t : Nat} : ∀ {l : List Rec} {f g : Fr}, f t = g t → (∀ q ∈ l, S q.i = false → q.o.dst ≠ some t ∧ q.kl = []) → fSel S f l t = fAll g l t
  | [], _, _, h, _ => h
  | r :: l, f, g, h, hs => by
    rw [fSel, fAll]
    refine fSel_all ?_ fun q hq => hs q (by simp [hq])
    cases e : S r.i with
    | true => exact Rec.fs_congr h
    | false =>
      obtain ⟨h1, h2⟩ := hs r (by simp) e
      rw [Rec.fs_ne h1 fun id ⟨b, hid⟩ => by rw [h2] at hid; cases hid]; exact h
theorem fSel_congr {t : Nat} : ∀ {l : List Rec} {f g : Fr}, f t = g t → (∀ q ∈ l, S q.i = S' q.i) → fSel S f l t = fSel S' g l t
  | [], _, _, h, _ => h
  | r :: l, f, g, h, hs => by
    rw [fSel, fSel]
    refine fSel_congr ?_ fun q hq => hs q (by simp [hq])
    rw [hs r (by simp)]
    cases S' r.i
    · exact h
    · exact Rec.fs_congr h
theorem mSel_none {j : Nat} : ∀ {l : List Rec} {m : Mem}, (∀ q ∈ l, S q.i = true → (∀ b, (j, b) ∉ q.wr) ∧ ∀ id, q.kills id → j ≠ id ∧ ∀ b, m j = some b → b.names id = false) → mSel S m l j = m j
  | [], _, _ => rfl
  | r :: l, m, h => by
    have h0 : (bif S r.i then r.ms m else m) j = m j := by
      cases e : S r.i with
      | false => rfl
      | true => obtain ⟨h1, h2⟩ := h r (by simp) e; exact Rec.ms_ne h1 h2
    rw [mSel, mSel_none fun q hq hs => by rw [h0]; exact h q (by simp [hq]) hs, h0]
theorem mSel_all {j : Nat} : ∀ {l : List Rec} {m n : Mem}, m j = n j → (∀ q ∈ l, S q.i = false → (∀ b, (j, b) ∉ q.wr) ∧ q.kl = []) → mSel S m l j = mAll n l j
  | [], _, _, h, _ => h
  | r :: l, m, n, h, hs => by
    rw [mSel, mAll]
    refine mSel_all ?_ fun q hq => hs q (by simp [hq])
    cases e : S r.i with
    | true => exact Rec.ms_congr h
    | false =>
      obtain ⟨h1, h2⟩ := hs r (by simp) e
      rw [Rec.ms_ne h1 fun id ⟨b, hid⟩ => by rw [h2] at hid; cases hid]; exact h
theorem mSel_congr {j : Nat} : ∀ {l : List Rec} {m n : Mem}, m j = n j → (∀ q ∈ l, S q.i = S' q.i) → mSel S m l j = mSel S' n l j
  | [], _, _, h, _ => h
  | r :: l, m, n, h, hs => by
    rw [mSel, mSel]
    refine mSel_congr ?_ fun q hq => hs q (by simp [hq])
    rw [hs r (by simp)]
    cases S' r.i
    · exact h
    · exact Rec.ms_congr h
end

section
variable {E : Env} {ops : Array Oper} {w0 : Base}
def RecOk (E : Env) (ops : Array Oper) (w0 : Base) (r : Rec) (f : Fr) (m : Mem) : Prop :=
  ∀ (f2 : Fr) (m2 : Mem), (∀ t ∈ r.o.looksAt ops, f2 t = f t) → (∀ x ∈ r.ft, m2 x.2 = m x.2) →
    ∀ (μ : Ro) (φ : Nat → Phys) (a : Act) (w : World) (K : Act → World → Prop) (Q : Exit → Act → World → Prop), Rel E.P E.glob E.fn.ntmps w0 μ φ f2 m2 a w →
      (∀ μ' φ' a' w', Rel E.P E.glob E.fn.ntmps w0 μ' φ' (r.fs f2) (r.ms m2) a' w' → K a' w') →
      if Region.wanted r.o (yielded ops a.tmps) then ∀ rd : Option Nat, r.o.wpIn (FR rd) 0 E.P a w K Q else K (a.put r.o.dst undef) w
def RecsOk (E : Env) (ops : Array Oper) (w0 : Base) : Fr → Mem → List Rec → Prop
  | _, _, [] => True
  | f, m, r :: l => RecOk E ops w0 r f m ∧ (∀ id b, (id, b) ∈ r.wr → (true, id) ∈ r.ft) ∧ RecsOk E ops w0 (r.fs f) (r.ms m) l

theorem RecsOk.append {f : Fr} {m : Mem} {l l' : List Rec} : RecsOk E ops w0 f m (l ++ l') ↔ RecsOk E ops w0 f m l ∧ RecsOk E ops w0 (fAll f l) (mAll m l) l' := by
  induction l generalizing f m with
  | nil => simp [RecsOk, fAll, mAll]
  | cons r l ih => simp only [List.cons_append, RecsOk, fAll, mAll, ih, and_assoc]
def Clean (ops : Array Oper) (id : Nat) (r : Rec) (f : Fr) (m : Mem) : Prop :=
  (∀ t ∈ r.o.looksAt ops, (f t).has id = false) ∧ r.v.has id = false ∧ (∀ x ∈ r.ft, x.2 ≠ id ∧ ∀ b, m x.2 = some b → b.names id = false) ∧ ∀ j b, (j, b) ∈ r.wr → (∀ m, r.ms m j = some b) → j ≠ id ∧ b.names id = false
def CleanOk (ops : Array Oper) : Fr → Mem → List Rec → Prop
  | _, _, [] => True
  | f, m, r :: l => (∀ q ∈ l, ∀ id, q.kills id → reach ops 4 q.o r.i = true ∨ Clean ops id r f m) ∧ CleanOk ops (r.fs f) (r.ms m) l
theorem CleanOk.append {f : Fr} {m : Mem} {l l' : List Rec} (h : CleanOk ops f m (l ++ l')) : CleanOk ops (fAll f l) (mAll m l) l' := by
  induction l generalizing f m with
  | nil => exact h
  | cons r l ih => exact ih h.2
def Ord (ops : Array Oper) (q r : Rec) : Prop :=
  reach ops 4 r.o q.i = true ∨ (q.o.apart ops r.o = true ∧ (∀ id b, (id, b) ∈ q.wr → ∀ x ∈ r.ft, x.2 ≠ id) ∧ ∀ id b, (id, b) ∈ r.wr → ∀ x ∈ q.ft, x.2 ≠ id)

theorem edgeOn_ok {o : Oper} {j : Nat} (h : edgeOn o j = true) : ∃ e ∈ o.after, Region.binds .any e = true ∧ e.on = j := by
  unfold edgeOn at h
  obtain ⟨e, he, h⟩ := List.any_eq_true.1 h
  have he : e ∈ o.after := Array.mem_toList_iff.1 he
  simp only [Bool.and_eq_true] at h
  exact ⟨e, he, h.1, Nat.eq_of_beq_eq_true h.2⟩

abbrev listed? (l : Array Bool) : Nat → Bool := fun i => l.getD i false

theorem any_order {rd : Option Nat} {recs : List Rec} {f0 : Fr} {m0 : Mem} {Q : Exit → Act → World → Prop}
    (hlt : recs.Pairwise fun q r => q.i < r.i) (hin : ∀ r ∈ recs, ops[r.i]? = some r.o) (hall : ∀ i o, ops[i]? = some o → ∃ r ∈ recs, r.i = i ∧ r.o = o)
    (hord : recs.Pairwise (Ord ops)) (hkl : recs.Pairwise fun q r => q.kl ≠ [] → reach ops 4 r.o q.i = true) (hcln : CleanOk ops f0 m0 recs) (hedge : ∀ r ∈ recs, ∀ e ∈ r.o.after, Region.binds .any e = true → e.on < r.i) (hok : RecsOk E ops w0 f0 m0 recs)
    (hQ : ∀ μ φ a w, Rel E.P E.glob E.fn.ntmps w0 μ φ (fAll f0 recs) (mAll m0 recs) a w → Q .normal a w) :
    ∀ (fuel : Nat) (listed : Array Bool), listed.size = ops.size → listed.toList.countP (fun b => !b) ≤ fuel →
      (∀ r ∈ recs, listed? listed r.i = true → ∀ e ∈ r.o.after, Region.binds .any e = true → listed? listed e.on = true) →
      ∀ (μ : Ro) (φ : Nat → Phys) (a : Act) (w : World), Rel E.P E.glob E.fn.ntmps w0 μ φ (fSel (listed? listed) f0 recs) (mSel (listed? listed) m0 recs) a w → wpAnyIn (FR rd) 0 E.P .any ops Q fuel listed a w := by
  -- when all are listed
  have done : ∀ (listed : Array Bool), (∀ r ∈ recs, listed? listed r.i = true) → ∀ (μ : Ro) (φ : Nat → Phys) (a : Act) (w : World), Rel E.P E.glob E.fn.ntmps w0 μ φ (fSel (listed? listed) f0 recs) (mSel (listed? listed) m0 recs) a w → Q .normal a w := by
    intro listed hl μ φ a w hR
    have e1 : fSel (listed? listed) f0 recs = fAll f0 recs := funext fun t => fSel_all rfl fun q hq hf => by rw [hl q hq] at hf; cases hf
    have e2 : mSel (listed? listed) m0 recs = mAll m0 recs := funext fun t => mSel_all rfl fun q hq hf => by rw [hl q hq] at hf; cases hf
    rw [e1, e2] at hR
    exact hQ μ φ a w hR
  have noReady : ∀ (listed : Array Bool), listed.size = ops.size → Region.ready .any ops listed = [] → ∀ (n : Nat) (r : Rec), r ∈ recs → r.i < n → listed? listed r.i = true := by
    intro listed hs hr n
    induction n with
    | zero => intro r _ h; omega
    | succ n ih =>
      intro r hr' hi
      cases hc : listed? listed r.i with
      | true => rfl
      | false =>
        exfalso
        have hlt : r.i < listed.size := by rw [hs]; exact (Array.getElem?_eq_some_iff.1 (hin r hr')).1
        have : r.i ∈ Region.ready .any ops listed := mem_ready.2 ⟨by
          simp only [listed?, Array.getD_eq_getD_getElem?, Array.getElem?_eq_getElem hlt, Option.getD_some] at hc ⊢; exact hc, r.o, hin r hr', fun e he hb => by
          have h1 := hedge r hr' e he hb
          have h2 : e.on < ops.size := by have := (Array.getElem?_eq_some_iff.1 (hin r hr')).1; omega
          obtain ⟨q, hq, hqi, _⟩ := hall e.on ops[e.on] (Array.getElem?_eq_getElem h2)
          have := ih q hq (by omega)
          rwa [hqi] at this⟩
        rw [hr] at this; cases this
  intro fuel
  induction fuel with
  | zero =>
    intro listed hs hc hcl μ φ a w hR
    have hall' : ∀ r ∈ recs, listed? listed r.i = true := fun r hr => by
      have hlt : r.i < listed.size := by rw [hs]; exact (Array.getElem?_eq_some_iff.1 (hin r hr)).1
      have := List.countP_eq_zero.1 (Nat.le_zero.1 hc) listed[r.i] (by simp)
      simp only [listed?, Array.getD_eq_getD_getElem?, Array.getElem?_eq_getElem hlt, Option.getD_some]
      simpa using this
    refine ⟨?_, done listed hall' μ φ a w hR⟩
    apply List.eq_nil_iff_forall_not_mem.2
    intro j hj
    obtain ⟨h0, o, ho, _⟩ := mem_ready.1 hj
    obtain ⟨r, hr, rfl, _⟩ := hall j o ho
    have h1 := hall' r hr
    have hlt : r.i < listed.size := by rw [hs]; exact (Array.getElem?_eq_some_iff.1 ho).1
    simp only [listed?, Array.getD_eq_getD_getElem?, Array.getElem?_eq_getElem hlt, Option.getD_some] at h0 h1
    rw [h0] at h1; cases h1
  | succ fuel ih =>
    intro listed hs hc hcl μ φ a w hR
    refine ⟨fun h0 => done listed (fun r hr => noReady listed hs h0 (r.i + 1) r hr (by omega)) μ φ a w hR, fun i hi => ?_⟩
    obtain ⟨hun, o, ho, hedges⟩ := mem_ready.1 hi
    obtain ⟨r, hr, rfl, rfl⟩ := hall i o ho
    have hilt : r.i < listed.size := by rw [hs]; exact (Array.getElem?_eq_some_iff.1 ho).1
    have hSi : listed? listed r.i = false := by
      simp only [listed?, Array.getD_eq_getD_getElem?, Array.getElem?_eq_getElem hilt, Option.getD_some] at hun ⊢; exact hun
    obtain ⟨pre, post, hsplit⟩ := List.append_of_mem hr
    subst hsplit
    have hpre : ∀ q ∈ pre, Ord ops q r := fun q hq => (List.pairwise_append.1 hord).2.2 q hq r (by simp)
    have hpost : ∀ q ∈ post, Ord ops r q := fun q hq => (List.pairwise_cons.1 (List.pairwise_append.1 hord).2.1).1 q hq
    have hipost : ∀ q ∈ post, q.i ≠ r.i := fun q hq => by have := (List.pairwise_cons.1 (List.pairwise_append.1 hlt).2.1).1 q hq; omega
    have hipre : ∀ q ∈ pre, q.i ≠ r.i := fun q hq => by have := (List.pairwise_append.1 hlt).2.2 q hq r (by simp); omega
    -- an edge from r: listed; an edge on r: not listed
    have hway : ∀ (n : Nat) (o : Oper) (j : Nat), (∀ e ∈ o.after, Region.binds .any e = true → listed? listed e.on = true) → reach ops n o j = true → listed? listed j = true := by
      have hdir : ∀ (o : Oper) (j : Nat), (∀ e ∈ o.after, Region.binds .any e = true → listed? listed e.on = true) → edgeOn o j = true → listed? listed j = true := fun o j ho h => by
        obtain ⟨e, he, hb, hon⟩ := edgeOn_ok h
        have := ho e he hb
        rw [hon] at this; exact this
      intro n
      induction n with
      | zero => exact fun o j ho h => hdir o j ho h
      | succ n ihn =>
        intro o j ho h
        simp only [reach, Bool.or_eq_true] at h
        rcases h with h | h
        · exact hdir o j ho h
        · obtain ⟨e, he, h⟩ := List.any_eq_true.1 h
          simp only [Bool.and_eq_true] at h
          obtain ⟨hb, h⟩ := h
          have he : e ∈ o.after := Array.mem_toList_iff.1 he
          split at h
          · rename_i p hp
            obtain ⟨q, hq, hqi, hqo⟩ := hall e.on p hp
            have hle := ho e he hb
            rw [← hqi] at hle
            exact ihn p j (fun e' he' hb' => hcl q hq hle e' (by rw [hqo]; exact he') hb') h
          · cases h
    have hin1 : ∀ q : Rec, reach ops 4 r.o q.i = true → listed? listed q.i = true := fun q h => hway 4 r.o q.i hedges h
    have hout : ∀ q ∈ post, reach ops 4 q.o r.i = true → listed? listed q.i = false := fun q hq h => by
      cases hc' : listed? listed q.i with
      | false => rfl
      | true =>
        have := hway 4 q.o r.i (hcl q (by simp [hq]) hc') h
        rw [hSi] at this; cases this
    have hskip : ∀ (f : Fr), fSel (listed? listed) f (r :: post) = fSel (listed? listed) f post := fun f => by rw [fSel, hSi]; rfl
    have hskipm : ∀ (m : Mem), mSel (listed? listed) m (r :: post) = mSel (listed? listed) m post := fun m => by rw [mSel, hSi]; rfl
    obtain ⟨_, hrok, hrw, _⟩ := RecsOk.append.1 hok
    have hc := hcln.append.1
    have hkpre : ∀ q ∈ pre, q.kl ≠ [] → reach ops 4 r.o q.i = true := fun q hq => (List.pairwise_append.1 hkl).2.2 q hq r (by simp)
    have hkpost : r.kl ≠ [] → ∀ q ∈ post, reach ops 4 q.o r.i = true := fun h q hq => (List.pairwise_cons.1 (List.pairwise_append.1 hkl).2.1).1 q hq h
    unfold wpOpIn
    rw [hin r hr]
    simp only
    have hf1 : ∀ t ∈ r.o.looksAt ops, fSel (listed? listed) f0 pre t = fAll f0 pre t := fun t ht => fSel_all rfl fun q hq hs => by
      have hnr : ¬ reach ops 4 r.o q.i = true := fun h => by rw [hin1 q h] at hs; cases hs
      refine ⟨fun hd => ?_, ?_⟩
      · rcases hpre q hq with h | ⟨h, _⟩
        · exact hnr h
        · exact absurd ht ((Oper.apart_spec h).1 t hd)
      · exact Classical.byContradiction fun hne => hnr (hkpre q hq hne)
    have hm1 : ∀ x ∈ r.ft, mSel (listed? listed) m0 pre x.2 = mAll m0 pre x.2 := fun x hx => mSel_all rfl fun q hq hs => by
      have hnr : ¬ reach ops 4 r.o q.i = true := fun h => by rw [hin1 q h] at hs; cases hs
      refine ⟨fun b hb => ?_, ?_⟩
      · rcases hpre q hq with h | ⟨_, h, _⟩
        · exact hnr h
        · exact absurd rfl (h _ b hb x hx)
      · exact Classical.byContradiction fun hne => hnr (hkpre q hq hne)
    have hnp : ∀ q ∈ post, listed? listed q.i = true → ¬ reach ops 4 q.o r.i = true := fun q hq hs h => by rw [hout q hq h] at hs; cases hs
    have hf2 : ∀ t ∈ r.o.looksAt ops, fSel (listed? listed) f0 (pre ++ r :: post) t = fAll f0 pre t := fun t ht => by
      rw [fSel_append, hskip, fSel_none fun q hq hs => ⟨fun hd => ?_, fun id hid => ?_⟩]
      · exact hf1 t ht
      · rcases hpost q hq with h | ⟨h, _⟩
        · exact hnp q hq hs h
        · exact absurd ht ((Oper.apart_spec h).2.2 t hd)
      · rw [hf1 t ht]
        rcases hc q hq id hid with h | h
        · exact absurd h (hnp q hq hs)
        · exact h.1 t ht
    have hm2 : ∀ x ∈ r.ft, mSel (listed? listed) m0 (pre ++ r :: post) x.2 = mAll m0 pre x.2 := fun x hx => by
      rw [mSel_append, hskipm, mSel_none fun q hq hs => ⟨fun b hb => ?_, fun id hid => ?_⟩]
      · exact hm1 x hx
      · rcases hpost q hq with h | ⟨_, _, h⟩
        · exact hnp q hq hs h
        · exact absurd rfl (h _ b hb x hx)
      · rw [hm1 x hx]
        rcases hc q hq id hid with h | h
        · exact absurd h (hnp q hq hs)
        · exact h.2.2.1 x hx
    have hwp := hrok _ _ hf2 hm2 μ φ a w (wpAnyIn (FR rd) 0 E.P .any ops Q fuel (listed.setIfInBounds r.i true)) Q hR fun μ' φ' a' w' hR' => by
      have hS' : ∀ j, listed? (listed.setIfInBounds r.i true) j = if j = r.i then true else listed? listed j := fun j => by
        simp only [listed?, Array.getD_eq_getD_getElem?, Array.getElem?_setIfInBounds]
        by_cases e : r.i = j
        · subst e; simp [hilt]
        · have e' : ¬ j = r.i := fun h => e h.symm
          simp [e, e']
      refine ih (listed.setIfInBounds r.i true) (by simp [hs]) ?_ ?_ μ' φ' a' w' ?_
      · rw [Array.toList_setIfInBounds, List.countP_set (by simpa using hilt)]
        have : listed.toList[r.i]'(by simpa using hilt) = false := by
          simp only [listed?, Array.getD_eq_getD_getElem?, Array.getElem?_eq_getElem hilt, Option.getD_some] at hSi; simpa using hSi
        rw [this]
        simp only [Bool.not_false, if_true, Bool.not_true, Bool.false_eq_true, if_false]
        omega
      · intro q hq hq1 e he hb
        rw [hS'] at hq1 ⊢
        split
        · rfl
        · split at hq1
          · rename_i hqi
            have : q = r := by
              rcases List.mem_append.1 hq with h | h
              · exact absurd hqi (hipre q h)
              · rcases List.mem_cons.1 h with h | h
                · exact h
                · exact absurd hqi (hipost q h)
            subst this
            exact hedges e he hb
          · exact hcl q hq hq1 e he hb
      · have hSpre : ∀ q ∈ pre, listed? (listed.setIfInBounds r.i true) q.i = listed? listed q.i := fun q hq => by rw [hS', if_neg (hipre q hq)]
        have hSpost : ∀ q ∈ post, listed? (listed.setIfInBounds r.i true) q.i = listed? listed q.i := fun q hq => by rw [hS', if_neg (hipost q hq)]
        have hSr : listed? (listed.setIfInBounds r.i true) r.i = true := by rw [hS', if_pos rfl]
        have e1 : fSel (listed? (listed.setIfInBounds r.i true)) f0 (pre ++ r :: post) = r.fs (fSel (listed? listed) f0 (pre ++ r :: post)) := funext fun t => by
          have hg : fSel (listed? (listed.setIfInBounds r.i true)) f0 pre = fSel (listed? listed) f0 pre := funext fun s => fSel_congr rfl hSpre
          rw [fSel_append, fSel_append, hskip, fSel, hSr, hg]
          simp only [cond]
          by_cases hk : r.kl = []
          · by_cases hd : r.o.dst = some t
            · rw [Rec.fs_eq hd, fSel_none fun q hq hs => ⟨fun hqd => ?_, fun id hid => ?_⟩, Rec.fs_eq hd]
              · rw [hSpost q hq] at hs
                rcases hpost q hq with h | ⟨h, _⟩
                · exact hnp q hq hs h
                · exact absurd hqd ((Oper.apart_spec h).2.1 t hd)
              · rw [hSpost q hq] at hs
                rw [Rec.fs_eq hd]
                rcases hc q hq id hid with h | h
                · exact absurd h (hnp q hq hs)
                · exact h.2.1
            · have hno : ∀ (g : Fr), r.fs g t = g t := fun g => Rec.fs_ne hd fun id ⟨b, hid⟩ => by rw [hk] at hid; cases hid
              rw [hno]
              exact fSel_congr (hno _) hSpost
          · have hun : ∀ q ∈ post, listed? listed q.i = false := fun q hq => hout q hq (hkpost hk q hq)
            rw [fSel_none fun q hq hs => by rw [hSpost q hq, hun q hq] at hs; cases hs]
            exact Rec.fs_congr (fSel_none fun q hq hs => by rw [hun q hq] at hs; cases hs).symm
        have e2 : mSel (listed? (listed.setIfInBounds r.i true)) m0 (pre ++ r :: post) = r.ms (mSel (listed? listed) m0 (pre ++ r :: post)) := funext fun j => by
          have hg : mSel (listed? (listed.setIfInBounds r.i true)) m0 pre = mSel (listed? listed) m0 pre := funext fun s => mSel_congr rfl hSpre
          rw [mSel_append, mSel_append, hskipm, mSel, hSr, hg]
          simp only [cond]
          by_cases hk : r.kl = []
          · by_cases hd : ∃ b, (j, b) ∈ r.wr
            · obtain ⟨b, hd, hms⟩ := Rec.ms_in hd
              rw [hms, mSel_none fun q hq hs => ⟨fun b' hqd => ?_, fun id hid => ?_⟩, hms]
              · rw [hSpost q hq] at hs
                rcases hpost q hq with h | ⟨_, _, h⟩
                · exact hnp q hq hs h
                · exact absurd rfl (h j b' hqd (true, j) (hrw j b hd))
              · rw [hSpost q hq] at hs
                rcases hc q hq id hid with h | h
                · exact absurd h (hnp q hq hs)
                · obtain ⟨h1, h2⟩ := h.2.2.2 j b hd hms
                  refine ⟨h1, fun b' hb' => ?_⟩
                  rw [hms] at hb'
                  cases hb'; exact h2
            · have hd' : ∀ b, (j, b) ∉ r.wr := fun b hb => hd ⟨b, hb⟩
              have hno : ∀ (g : Mem), r.ms g j = g j := fun g => Rec.ms_ne hd' fun id ⟨b, hid⟩ => by rw [hk] at hid; cases hid
              rw [hno]
              exact mSel_congr (hno _) hSpost
          · have hun : ∀ q ∈ post, listed? listed q.i = false := fun q hq => hout q hq (hkpost hk q hq)
            rw [mSel_none fun q hq hs => by rw [hSpost q hq, hun q hq] at hs; cases hs]
            exact Rec.ms_congr (mSel_none fun q hq hs => by rw [hun q hq] at hs; cases hs).symm
        rw [e1, e2]; exact hR'
    split
    · rename_i hw
      rw [if_pos hw] at hwp
      exact hwp rd
    · rename_i hw
      rw [if_neg hw] at hwp
      exact ⟨fun _ _ => trivial, hwp⟩
end
end Go.Ab

set_option linter.unusedVariables false
namespace Go.Ab
open Go.RowKit (Below)
section
variable {E : Env} {ops : Array Oper} {w0 : Base}

theorem looks_tmp {o : Oper} {t : Nat} (h : .tmp t ∈ o.op.operands) : t ∈ o.looksAt ops := by
  unfold Oper.looksAt
  refine List.mem_append.2 (.inl (List.mem_filterMap.2 ⟨.tmp t, by simpa using h, rfl⟩))
theorem looks_guard {o : Oper} {g : Nat × Bool} {t : Nat} (hg : o.guard = some g) (h : (ops[g.1]?).bind (·.dst) = some t) : t ∈ o.looksAt ops := by
  unfold Oper.looksAt
  rw [hg]
  refine List.mem_append.2 (.inr ?_)
  show t ∈ ((ops[g.1]?).bind (·.dst)).toList
  rw [h]; simp
theorem opd_looks {o : Oper} {f F : Fr} (h : ∀ t ∈ o.looksAt ops, f t = F t) : ∀ x ∈ o.op.operands, opd E f x = opd E F x := by
  intro x hx
  cases x with
  | tmp t => simp only [opd]; rw [h t (looks_tmp hx)]
  | _ => rfl

theorem wanted_held {o : Oper} {A : List (Nat × Bool)} {f f2 : Fr} {m2 : Mem} {μ : Ro} {φ : Nat → Phys} {a : Act} {w : World} (hg : guardOf o A = none) (hA : Held E.fn.ntmps ops A f) (hR : Rel E.P E.glob E.fn.ntmps w0 μ φ f2 m2 a w) (hf : ∀ t ∈ o.looksAt ops, f2 t = f t) : Region.wanted o (yielded ops a.tmps) = true := by
  unfold guardOf at hg
  unfold Region.wanted
  split at hg
  · rename_i hgd; simp [hgd]
  · rename_i g hgd
    split at hg
    · rename_i hmem
      obtain ⟨t, h1, h0, h2⟩ := hA g (by simpa using hmem)
      have h3 := hR.fr t
      rw [slots_lt h0, hf t (looks_guard hgd h1), h2] at h3
      simp only [hgd]
      rw [yielded_of h1 (rep_bool h3)]
      simp
    · cases hg
theorem recOk_of (hE : EnvOk E) {i : Nat} {o : Oper} {v : V} {wr : List (Nat × Blk)} {ft : Foot} {f : Fr} {m : Mem} {A : List (Nat × Bool)} (hg : guardOf o A = none)
    (hA : Held E.fn.ntmps ops A f) (hd : dstOk E o = true)
    (hn : ∀ (f2 : Fr) (m2 : Mem), (∀ x ∈ o.op.operands, opd E f2 x = opd E f x) → (∀ x ∈ ft, m2 x.2 = m x.2) → ∀ (R' : Type) (k' : V → Fr → Mem → Foot → Option R'), xop E true (siteOf E o.dst) o f2 m2 k' = k' v f2 (wrM wr m2) ft) :
    RecOk E ops w0 ⟨i, o, v, wr, ft, []⟩ f m := by
  intro f2 m2 hf hm μ φ a w K Q hR hK
  have hw : Region.wanted o (yielded ops a.tmps) = true := by
    unfold guardOf at hg
    unfold Region.wanted
    split at hg
    · rename_i hgd; simp [hgd]
    · rename_i g hgd
      split at hg
      · rename_i hmem
        obtain ⟨t, h1, h0, h2⟩ := hA g (by simpa using hmem)
        have h3 := hR.fr t
        rw [slots_lt h0, hf t (looks_guard hgd h1), h2] at h3
        simp only [hgd]
        rw [yielded_of h1 (rep_bool h3)]
        simp
      · cases hg
  simp only at hf hm hK ⊢
  rw [if_pos hw]
  exact fun rd => (op_at hE (.inl rfl) (hn f2 m2 (opd_looks hf) hm)).soundR (xop_defer (hn f2 m2 (opd_looks hf) hm Unit fun _ _ _ _ => some ())) rd w0 μ φ a w K Q hR fun y w' μ' φ' hle hM hF hv hl => hK _ _ _ _ (hR.put hle (dstOk_lt hd) hM hF hv hl)

theorem recOk_skip {i : Nat} {o : Oper} {f : Fr} {m : Mem} (hd : dstOk E o = true) (hdead : Dead ops f o) : RecOk E ops w0 ⟨i, o, .tup [], [], [], []⟩ f m := by
  intro f2 m2 hf hm μ φ a w K Q hR hK
  simp only at hf hm hK ⊢
  have hdead' : Dead ops f2 o := by
    obtain ⟨g, hg, ht⟩ := hdead
    exact ⟨g, hg, fun t h => by rw [hf t (looks_guard hg h)]; exact ht t h⟩
  rw [dead_unwanted hR hdead']
  simp only [Bool.false_eq_true, if_false]
  exact hK _ _ _ _ (hR.put (fun _ _ h => h) (dstOk_lt hd) hR.toRelM hR.frOk rep_undef' (fun id hid => by simp [V.has, hasL] at hid))

def skipRec (x : Nat × Oper) : Rec := ⟨x.1, x.2, .tup [], [], [], []⟩
theorem recs_skip {m : Mem} : ∀ (l : List (Nat × Oper)) (F : Fr), (∀ x ∈ l, dstOk E x.2 = true) → (∀ (pre post : List (Nat × Oper)) (x : Nat × Oper), l = pre ++ x :: post → Dead ops (skipAll F pre) x.2) →
    RecsOk E ops w0 F m (l.map skipRec) ∧ fAll F (l.map skipRec) = skipAll F l
  | [], F, _, _ => ⟨trivial, rfl⟩
  | x :: r, F, hd, hdead => by
    obtain ⟨h1, h2⟩ := recs_skip (m := m) r (frPut F x.2.dst (.tup [])) (fun y hy => hd y (by simp [hy])) (fun pre post y h => by
      have := hdead (x :: pre) post y (by rw [h]; rfl)
      rwa [skipAll] at this)
    exact ⟨⟨recOk_skip (hd x (by simp)) (hdead [] r x rfl), by simp [skipRec], h1⟩, h2⟩

theorem mAll_none {m : Mem} : ∀ {l : List Rec}, (∀ q ∈ l, q.wr = [] ∧ q.kl = []) → mAll m l = m
  | [], _ => rfl
  | r :: l, h => by
    obtain ⟨h1, h2⟩ := h r (by simp)
    have : r.ms m = m := by unfold Rec.ms; rw [h1, h2]; rfl
    rw [mAll, this]; exact mAll_none fun q hq => h q (by simp [hq])

theorem RecsOk.wr : ∀ {l : List Rec} {f : Fr} {m : Mem}, RecsOk E ops w0 f m l → ∀ q ∈ l, ∀ id b, (id, b) ∈ q.wr → (true, id) ∈ q.ft
  | [], _, _, _, q, hq => by cases hq
  | r :: l, f, m, h, q, hq => by
    rcases List.mem_cons.1 hq with rfl | hq
    · exact h.2.1
    · exact RecsOk.wr h.2.2 q hq
def MemOrd (q r : Rec) : Prop :=
  reach ops 4 r.o q.i = true ∨ ((∀ id b, (id, b) ∈ q.wr → ∀ x ∈ r.ft, x.2 ≠ id) ∧ ∀ id b, (id, b) ∈ r.wr → ∀ x ∈ q.ft, x.2 ≠ id)

theorem okLog_ok {o : Oper} {w : Bool} {id : Nat} : ∀ {lg : Log}, okLog ops o w id lg = true → ∀ x ∈ lg, id ≠ x.2.2 ∨ (w = false ∧ x.2.1 = false) ∨ reach ops 4 o x.1 = true
  | [], _, x, hx => by cases hx
  | (j, w', id') :: lg, h, x, hx => by
    simp only [okLog, Bool.and_eq_true] at h
    rcases List.mem_cons.1 hx with rfl | hx
    · have h1 := h.1
      simp only [Bool.or_eq_true, Bool.not_eq_true', Bool.and_eq_true] at h1
      rcases h1 with (h1 | h1) | h1
      · exact .inl fun e => by subst e; simp [Nat.beq_refl] at h1
      · exact .inr (.inl h1)
      · exact .inr (.inr h1)
    · exact okLog_ok h.2 x hx
theorem okFoot_ok {o : Oper} {lg : Log} : ∀ {ft : Foot}, okFoot ops o lg ft = true → ∀ y ∈ ft, ∀ x ∈ lg, y.2 ≠ x.2.2 ∨ (y.1 = false ∧ x.2.1 = false) ∨ reach ops 4 o x.1 = true
  | [], _, y, hy => by cases hy
  | (w, id) :: ft, h, y, hy => by
    simp only [okFoot, Bool.and_eq_true] at h
    rcases List.mem_cons.1 hy with rfl | hy
    · exact okLog_ok h.1
    · exact okFoot_ok h.2 y hy

theorem okNames_ok {o : Oper} {id : Nat} : ∀ {lg : Log}, okNames ops o id lg = true → ∀ x ∈ lg, x.2.2 = nameTag id → reach ops 4 o x.1 = true
  | [], _, x, hx => by cases hx
  | (j, w, n) :: lg, h, x, hx => by
    simp only [okNames, Bool.and_eq_true, Bool.or_eq_true, Bool.not_eq_true'] at h
    intro he
    rcases List.mem_cons.1 hx with rfl | hx
    · rcases h.1 with h1 | h1
      · simp only at he
        rw [he, Nat.beq_refl] at h1; cases h1
      · exact h1
    · exact okNames_ok h.2 x hx he
mutual
theorem ids_has {id : Nat} : ∀ (v : V), v.has id = true → id ∈ v.ids
  | .agg cs, h => idsL_has cs (by simpa only [V.has] using h)
  | .tup cs, h => idsL_has cs (by simpa only [V.has] using h)
  | .fn _ cs, h => idsL_has cs (by simpa only [V.has] using h)
  | .os j, h => by have := Nat.eq_of_beq_eq_true h; subst this; simp [V.ids]
  | .osub j _ _, h => by have := Nat.eq_of_beq_eq_true h; subst this; simp [V.ids]
  | .oe j _ _, h => by have := Nat.eq_of_beq_eq_true h; subst this; simp [V.ids]
  | .om j, h => by have := Nat.eq_of_beq_eq_true h; subst this; simp [V.ids]
  | .os2 j _ _, h => by have := Nat.eq_of_beq_eq_true h; subst this; simp [V.ids]
  | .oe2 j _ _ _ _ _, h => by have := Nat.eq_of_beq_eq_true h; subst this; simp [V.ids]
  | .op j _, h => by have := Nat.eq_of_beq_eq_true h; subst this; simp [V.ids]
  | .it j, h => by have := Nat.eq_of_beq_eq_true h; subst this; simp [V.ids]
  | .yl j, h => by have := Nat.eq_of_beq_eq_true h; subst this; simp [V.ids]
  | .pv _, h => by cases h
  | .nils, h => by cases h
  | .top, h => by cases h
theorem idsL_has {id : Nat} : ∀ (cs : List V), hasL id cs = true → id ∈ idsL cs
  | [], h => by cases h
  | v :: r, h => by
    simp only [hasL, Bool.or_eq_true] at h
    simp only [idsL, List.mem_append]
    rcases h with h | h
    · exact .inl (ids_has v h)
    · exact .inr (idsL_has r h)
end
theorem blkIds_names {b : Blk} {id : Nat} (h : b.names id = true) : id ∈ blkIds (some b) := by
  cases b with
  | box cs => exact idsL_has cs h
  | _ => cases h
theorem namesB_mem {m m' : Mem} {id : Nat} : ∀ {ft : Foot} {x : Bool × Nat}, x ∈ ft → (id ∈ blkIds (m x.2) ∨ id ∈ blkIds (m' x.2)) → id ∈ namesB m m' ft
  | y :: ft, x, hx, h => by
    simp only [namesB, List.mem_append]
    rcases List.mem_cons.1 hx with rfl | hx
    · exact .inl h
    · exact .inr (namesB_mem hx h)
theorem clean_of {id i : Nat} {o : Oper} {v : V} {wr : List (Nat × Blk)} {ft : Foot} {f F : Fr} {m : Mem} (hseen : ∀ t ∈ o.looksAt ops, f t = F t) (hwr : ∀ j b, (j, b) ∈ wr → (true, j) ∈ ft) (hn : id ∉ namesOf ops o f m (wrM wr m) v ft) (hft : ∀ x ∈ ft, x.2 ≠ id) :
    Clean ops id ⟨i, o, v, wr, ft, []⟩ F m := by
  simp only [namesOf, List.mem_append, not_or] at hn
  obtain ⟨⟨h1, h2⟩, h3⟩ := hn
  refine ⟨fun t ht => ?_, ?_, fun x hx => ⟨hft x hx, fun b hb => ?_⟩, fun j b hb hms => ⟨hft _ (hwr j b hb), ?_⟩⟩
  · cases e : (F t).has id with
    | false => rfl
    | true => exact absurd (idsL_has _ (hasL_iff.2 ⟨f t, List.mem_map.2 ⟨t, ht, rfl⟩, by rw [hseen t ht]; exact e⟩)) h1
  · cases e : v.has id with
    | false => rfl
    | true => exact absurd (ids_has _ e) h2
  · cases e : b.names id with
    | false => rfl
    | true => exact absurd (namesB_mem hx (.inl (by rw [hb]; exact blkIds_names e))) h3
  · cases e : b.names id with
    | false => rfl
    | true => exact absurd (namesB_mem (hwr j b hb) (.inr (by have hb' : wrM wr m j = some b := hms m; simp only; rw [hb']; exact blkIds_names e))) h3
theorem appInfo_ok {R : Type} {site : Nat} {o : Oper} {f : Fr} {m : Mem} {id : Nat} {rd : Foot} (h : appInfo E f m o = some (id, rd)) {k : V → Fr → Mem → Foot → Option R} {r : R} (hx : xop1 E false site o f m k = some r) :
    (∀ x ∈ rd, x.1 = false) ∧ ∃ blk, k (.os id) (killF id f) (memSet (memDel (killM id m) id) id blk) [(true, 0)] = some r ∧
    ∀ (f2 : Fr) (m2 : Mem), (∀ x ∈ o.op.operands, opd E f2 x = opd E f x) → (∀ x ∈ (true, id) :: rd, m2 x.2 = m x.2) → ∀ (R' : Type) (k' : V → Fr → Mem → Foot → Option R'), xop1 E false site o f2 m2 k' = k' (.os id) (killF id f2) (memSet (memDel (killM id m2) id) id blk) [(true, 0)] := by
  obtain ⟨dst, op, type, pos, after, guard⟩ := o
  unfold appInfo at h
  simp only at h
  split at h
  · rename_i c
    obtain ⟨callee, args, argTypes⟩ := c
    simp only at h
    split at h
    · rename_i id' x t t' hargs hty
      split at h
      · rename_i e hu
        split at h
        · rename_i new rd' hel
          split at h
          · cases h
          · rename_i hxh
            simp only [Option.some.injEq, Prod.mk.injEq] at h
            obtain ⟨rfl, rfl⟩ := h
            obtain ⟨he1, he2, _⟩ := elemsV_ok hel
            have hdel : ∀ m2 : Mem, memDel (killM id' m2) id' id' = none := fun m2 => by simp [memDel, Nat.beq_refl]
            have main : ∀ (f2 : Fr) (m2 : Mem), args.toList.map (opd E f2) = [.os id', x] → m2 id' = m id' → elemsV m2 (csz E.P e) x = some (new, rd') → ∀ (R' : Type) (k' : V → Fr → Mem → Foot → Option R'),
                xop1 E false site ⟨dst, .call ⟨.builtin .append, args, argTypes⟩, type, pos, after, guard⟩ f2 m2 k' =
                  if !(decide (t' = t)) then none else if (zeroCellsV E e).isNone then none else match m id' with
                    | some (.arr sz et es) => if et = e ∧ sz = csz E.P e ∧ x.has id' = false then (if (es ++ new).length * bsz E.P e ≤ roomBound ∧ 0 < bsz E.P e then k' (.os id') (killF id' f2) (memSet (memDel (killM id' m2) id') id' (.arr sz e (es ++ new))) [(true, 0)] else none) else none
                    | _ => none := by
              intro f2 m2 h1 h2 h3 R' k'
              simp only [xop1, h1, hty, xappend, Bool.false_or, hu, h3, h2]
              split
              · rfl
              · split
                · rfl
                · split
                  · rename_i sz et es hmm
                    simp only [fresh, hdel, hmm]
                  · rename_i hne
                    split
                    · rename_i sz et es hm2
                      exact absurd hm2 (hne sz et es)
                    · rfl
            rw [main f m hargs rfl hel] at hx
            refine ⟨he2, ?_⟩
            split at hx
            · cases hx
            · rename_i hc1
              split at hx
              · cases hx
              · rename_i hc2
                split at hx
                · rename_i sz et es hm
                  split at hx
                  · rename_i hc3
                    split at hx
                    · rename_i hc4
                      refine ⟨_, hx, fun f2 m2 hf hm2 R' k' => ?_⟩
                      have ha : args.toList.map (opd E f2) = [.os id', x] := by
                        rw [← hargs]
                        exact map_congr_opd fun y hy => hf y (by simp only [Op.operands, Call.operands]; simp [Array.mem_toList_iff.1 hy])
                      rw [main f2 m2 ha (hm2 (true, id') (by simp)) (he1 m2 fun y hy => hm2 y (by simp [hy])) R' k']
                      rw [if_neg hc1, if_neg hc2, hm]
                      simp only
                      rw [if_pos hc3, if_pos hc4]
                    · cases hx
                  · cases hx
                · cases hx
        · cases h
      · cases h
    · cases h
  · cases h
theorem FLe.kill {f F : Fr} (h : FLe f F) (id : Nat) : FLe (killF id f) (killF id F) := fun t => by
  rcases h t with e | e
  · exact .inl (by simp only [killF, e])
  · exact .inr (by simp only [killF, e]; rfl)

theorem Held.kill {nt : Nat} {A : List (Nat × Bool)} {f : Fr} (h : Held nt ops A f) (id : Nat) : Held nt ops A (killF id f) := by
  intro g hg
  obtain ⟨t, h1, h0, h2⟩ := h g hg
  exact ⟨t, h1, h0, by simp only [killF, h2]; rfl⟩
theorem isApp_of {f : Fr} {m : Mem} {o : Oper} {x : Nat × Foot} (h : appInfo E f m o = some x) : isApp E o = true := by
  obtain ⟨dst, op, type, pos, after, guard⟩ := o
  unfold appInfo at h
  simp only at h
  unfold isApp
  split at h
  · rename_i c
    obtain ⟨callee, args, argTypes⟩ := c
    simp only at h
    split at h
    · simp
    · cases h
  · cases h
theorem appInfo_args {f : Fr} {m : Mem} {o : Oper} {id : Nat} {rd : Foot} (h : appInfo E f m o = some (id, rd)) : ∃ c x t t', o.op = .call c ∧ c.callee = .builtin .append ∧ c.args.toList.map (opd E f) = [.os id, x] ∧ c.argTypes.toList = [t, t'] := by
  unfold appInfo at h
  split at h
  · rename_i c hc
    split at h
    · rename_i id' x t t' h1 h2 h3
      split at h
      · split at h
        · split at h
          · cases h
          · simp only [Option.some.injEq, Prod.mk.injEq] at h
            obtain ⟨rfl, _⟩ := h
            exact ⟨c, x, t, t', hc, h1, h2, h3⟩
        · cases h
      · cases h
    · cases h
  · cases h
theorem spInfo_ok {R : Type} {o : Oper} {f : Fr} {m : Mem} {kl : Kl} {ft : Foot} (h : spInfo E f m o = some (kl, ft)) {k : V → Fr → Mem → Foot → Option R} {r : R} (hx : xop E false (siteOf E o.dst) o f m k = some r) :
    isApp E o = true ∧ ∃ v wr ft1, k v (kf kl f) (wrM wr (km kl m)) ft1 = some r ∧ (∀ x ∈ wr, (true, x.1) ∈ ft) ∧ (∀ x ∈ kl, (true, x.2) ∈ ft) ∧
    ∀ (f2 : Fr) (m2 : Mem), (∀ x ∈ o.op.operands, opd E f2 x = opd E f x) → (∀ x ∈ ft, m2 x.2 = m x.2) → ∀ (R' : Type) (k' : V → Fr → Mem → Foot → Option R'), xop E false (siteOf E o.dst) o f2 m2 k' = k' v (kf kl f2) (wrM wr (km kl m2)) ft1 := by
  unfold spInfo at h
  unfold xop at hx
  split at h
  · rename_i sp hsp
    simp only [Option.some.injEq] at h
    have hn : E.nst (siteOf E o.dst) = true := by
      cases hn : E.nst (siteOf E o.dst) with
      | true => rfl
      | false => rw [hn] at hsp; cases hsp
    rw [hn] at hsp hx
    simp only [cond] at hsp hx
    rw [hsp] at hx
    obtain ⟨v, wr, h1, h2, h3, h4, _, _⟩ := xsp_ok hsp hx
    rw [h] at h1 h2 h3 h4
    refine ⟨by unfold isApp; rw [hn]; rfl, v, wr, ft, h1, h2, h3, fun f2 m2 hf hm R' k' => ?_⟩
    have := spOf_congr hsp hf (by rw [h]; exact hm)
    unfold xop
    rw [hn]
    simp only [cond]
    rw [this]
    exact h4 f2 m2 R' k'
  · rename_i hsp
    split at h
    · rename_i id rd happ
      simp only [Option.some.injEq, Prod.mk.injEq] at h
      obtain ⟨rfl, rfl⟩ := h
      have e0 : (bif false then none else bif E.nst (siteOf E o.dst) then spOf E (siteOf E o.dst) o f m else none) = (bif E.nst (siteOf E o.dst) then spOf E (siteOf E o.dst) o f m else none) := rfl
      rw [e0, hsp] at hx
      simp only at hx
      obtain ⟨hrd, blk, hk, hn⟩ := appInfo_ok happ hx
      refine ⟨isApp_of happ, .os id, [(id, blk)], [(true, 0)], hk, by simp, by simp, fun f2 m2 hf hm R' k' => ?_⟩
      have hnone : (bif E.nst (siteOf E o.dst) then spOf E (siteOf E o.dst) o f2 m2 else none) = none := by
        cases hns : E.nst (siteOf E o.dst) with
        | false => rfl
        | true =>
          simp only [cond]
          obtain ⟨c, x, t, t', hc, hcal, hargs, htys⟩ := appInfo_args happ
          have hargs2 : c.args.toList.map (opd E f2) = [.os id, x] := by
            rw [← hargs]
            exact List.map_congr_left fun y hy => hf y (by rw [hc]; simp only [Op.operands, Call.operands]; rw [hcal]; simp [Array.mem_toList_iff.1 hy])
          have hm2 : m2 id = m id := hm (true, id) (by simp)
          have hm3 : ∃ sz et es, m id = some (.arr sz et es) := by
            obtain ⟨dst, op, type, pos, after, guard⟩ := o
            simp only at hc
            subst hc
            obtain ⟨callee, args, argTypes⟩ := c
            simp only at hcal hargs htys
            subst hcal
            simp only [xop1, hargs, htys, xappend, Bool.false_or] at hx
            split at hx
            · cases hx
            · split at hx
              · split at hx
                · cases hx
                · split at hx
                  · split at hx
                    · rename_i sz et es hm; exact ⟨sz, et, es, hm⟩
                    · cases hx
                  · cases hx
              · cases hx
          obtain ⟨sz, et, es, hm3⟩ := hm3
          unfold spOf
          rw [hc]
          simp only [hcal, hargs2, htys, hm2, hm3]
          split <;> first | rfl | (rename_i heq; cases heq)
      unfold xop
      have e1 : (bif false then none else bif E.nst (siteOf E o.dst) then spOf E (siteOf E o.dst) o f2 m2 else none) = (bif E.nst (siteOf E o.dst) then spOf E (siteOf E o.dst) o f2 m2 else none) := rfl
      rw [e1, hnone]
      exact hn f2 m2 hf hm R' k'
    · cases h
theorem FLe.kill2 {f F : Fr} (h : FLe f F) (id : Nat) : FLe (kill2F id f) (kill2F id F) := fun t => by
  rcases h t with e | e
  · exact .inl (by simp only [kill2F, e])
  · exact .inr (by simp only [kill2F, e]; rfl)
theorem FLe.kf : ∀ {kl : Kl} {f F : Fr}, FLe f F → FLe (Go.Ab.kf kl f) (Go.Ab.kf kl F)
  | [], _, _, h => h
  | (true, id) :: r, f, F, h => FLe.kf (kl := r) (f := killF id f) (F := killF id F) (h.kill id)
  | (false, id) :: r, f, F, h => FLe.kf (kl := r) (f := kill2F id f) (F := kill2F id F) (h.kill2 id)
theorem Held.kill2 {nt : Nat} {A : List (Nat × Bool)} {f : Fr} (h : Held nt ops A f) (id : Nat) : Held nt ops A (kill2F id f) := by
  intro g hg
  obtain ⟨t, h1, h0, h2⟩ := h g hg
  exact ⟨t, h1, h0, by simp only [kill2F, h2]; rfl⟩
theorem Held.kf {nt : Nat} {A : List (Nat × Bool)} : ∀ {kl : Kl} {f : Fr}, Held nt ops A f → Held nt ops A (Go.Ab.kf kl f)
  | [], _, h => h
  | (true, id) :: r, f, h => Held.kf (kl := r) (f := killF id f) (h.kill id)
  | (false, id) :: r, f, h => Held.kf (kl := r) (f := kill2F id f) (h.kill2 id)
theorem recOk_app (hE : EnvOk E) (hY : YlOk E.P E.glob E.fn.ntmps E.yl w0) {i : Nat} {o : Oper} {f F : Fr} {m : Mem} {A : List (Nat × Bool)} {v : V} {wr : List (Nat × Blk)} {kl : Kl} {ft ft1 : Foot} (hg : guardOf o A = none) (hA : Held E.fn.ntmps ops A F) (hd : dstOk E o = true) (hop : ∀ x ∈ o.op.operands, opd E f x = opd E F x)
    (hn : ∀ (f2 : Fr) (m2 : Mem), (∀ x ∈ o.op.operands, opd E f2 x = opd E f x) → (∀ x ∈ ft, m2 x.2 = m x.2) → ∀ (R' : Type) (k' : V → Fr → Mem → Foot → Option R'), xop E false (siteOf E o.dst) o f2 m2 k' = k' v (kf kl f2) (wrM wr (km kl m2)) ft1) :
    RecOk E ops w0 ⟨i, o, v, wr, ft, kl⟩ F m := by
  intro f2 m2 hf hm μ φ a w K Q hR hK
  have hw : Region.wanted o (yielded ops a.tmps) = true := wanted_held hg hA hR hf
  simp only at hf hm hK ⊢
  rw [if_pos hw]
  have hx := hn f2 m2 (fun x hx => by rw [opd_looks hf x hx, hop x hx]) hm (V × Fr × Mem) fun v f m _ => some (v, f, m)
  rcases xop_ok hE hx with ⟨v, f', m', ft, h1, h2⟩ | ⟨_, h2⟩
  · simp only [Option.some.injEq, Prod.mk.injEq] at h1
    obtain ⟨rfl, rfl, rfl⟩ := h1
    exact fun rd => h2.soundR (xop_defer hx) rd w0 μ φ a w K Q hR fun y w' μ' φ' hle hM hF hv hl => hK _ _ _ _ (hR.put hle (dstOk_lt hd) hM hF hv hl)
  · refine fun rd => OpIn.soundR h2 rd w0 μ φ a w K Q hY hR fun v f' m' y w' μ' φ' h1 hle hM hF hv hl => ?_
    simp only [Option.some.injEq, Prod.mk.injEq] at h1
    obtain ⟨rfl, rfl, rfl⟩ := h1
    exact hK _ _ _ _ (hR.put hle (dstOk_lt hd) hM hF hv hl)
structure RecsFit (ops : Array Oper) (mode : Nat) (F : Fr) (m : Mem) (lg : Log) (recs : List Rec) : Prop where
  one : mode = 1 → ∀ q ∈ recs, q.wr = [] ∧ q.kl = []
  ord : mode = 2 → recs.Pairwise (MemOrd (ops := ops))
  log : mode = 2 → ∀ q ∈ recs, ∀ y ∈ q.ft, ∀ x ∈ lg, y.2 ≠ x.2.2 ∨ (y.1 = false ∧ x.2.1 = false) ∨ reach ops 4 q.o x.1 = true
  kl : recs.Pairwise fun q r => q.kl ≠ [] → reach ops 4 r.o q.i = true
  cln : CleanOk ops F m recs
  nam : ∀ q ∈ recs, ∀ id, q.kills id → mode = 2 ∧ ops.toList.any (isApp E) = true ∧ (true, id) ∈ q.ft ∧ ∀ x ∈ lg, x.2.2 = nameTag id → reach ops 4 q.o x.1 = true

theorem CleanOk.none : ∀ {l : List Rec} {f : Fr} {m : Mem}, (∀ q ∈ l, q.kl = []) → CleanOk ops f m l
  | [], _, _, _ => trivial
  | r :: l, f, m, h => ⟨fun q hq id ⟨b, hid⟩ => (by rw [h q (by simp [hq])] at hid; cases hid), CleanOk.none fun q hq => h q (by simp [hq])⟩

theorem evalOps_recs (hE : EnvOk E) (hY : YlOk E.P E.glob E.fn.ntmps E.yl w0) {mode : Nat} (hmode : mode = 1 ∨ mode = 2) : ∀ (fuel : Nat) {R : Type} {A : List (Nat × Bool)} {l : List (Nat × Oper)} {f : Fr} {m : Mem} {lg : Log} {k : Fr → Mem → Option R} {r : R}, evalOps E ops mode fuel R A l f m lg k = some r →
    (∀ x ∈ l, ops[x.1]? = some x.2) → (mode = 1 → ∀ x ∈ l, readKind x.2 = true) → Away ops A l → ∀ F : Fr, FLe f F → Held E.fn.ntmps ops A F → (∀ x ∈ l, ∀ t ∈ x.2.looksAt ops, f t = F t) →
    ∃ (recs : List Rec) (f' : Fr), k f' (mAll m recs) = some r ∧ FLe f' (fAll F recs) ∧ recs.map (fun r => (r.i, r.o)) = l ∧ RecsOk E ops w0 F m recs ∧ RecsFit (E := E) ops mode F m lg recs
  | 0, _, _, _, _, _, _, _, _, h, _, _, _, _, _, _, _ => by simp [evalOps] at h
  | fuel + 1, R, A, [], f, m, lg, k, r, h, _, _, _, F, hF, _, _ => by
    simp only [evalOps] at h
    exact ⟨[], f, h, hF, rfl, trivial, by simp, fun _ => .nil, by simp, .nil, trivial, by simp⟩
  | fuel + 1, R, A, (i, o) :: rest, f, m, lg, k, r, h, hl, hrk, haw, F, hF, hA, hseen => by
    have hm1 : (Nat.beq mode 1 || Nat.beq mode 2) = true := by rcases hmode with rfl | rfl <;> rfl
    simp only [evalOps, hm1] at h
    split at h
    · rename_i hg
      split at h
      · rename_i hd
        have hopd : ∀ x ∈ o.op.operands, opd E f x = opd E F x := opd_looks (hseen (i, o) (by simp))
        split at h
        · -- a place is forgotten
          rename_i kl ft hsp
          have hmode2 : mode = 2 := by
            rcases hmode with rfl | rfl
            · cases hsp
            · rfl
          subst hmode2
          have hsp : spInfo E f m o = some (kl, ft) := hsp
          split at h
          · rename_i hck
            simp only [Bool.and_eq_true, List.all_eq_true] at hck
            obtain ⟨⟨hck1, hck2⟩, hck3⟩ := hck
            obtain ⟨happ, v, wr, ft1, hk, hwr, hkl, hn⟩ := spInfo_ok hsp h
            obtain ⟨recs, f', c1, c2, c3, c4, c5⟩ := evalOps_recs hE hY (.inr rfl) fuel hk (fun x hx => hl x (by simp [hx])) (fun hm => by cases hm) (fun x hx => haw x (by simp [hx])) (frPut (kf kl F) o.dst v) ((FLe.kf (kl := kl) hF).put _ _) (Held.put (Held.kf (kl := kl) hA) fun g hgm t ht => haw (i, o) (by simp) g hgm t ht) (fun x hx t ht => by
              by_cases e : o.dst = some t
              · rw [e, frPut_eq, frPut_eq]
              · rw [frPut_ne e, frPut_ne e]; exact kf_congr (hseen x (by simp [hx]) t ht))
            have hin : ∀ q ∈ recs, reach ops 4 q.o i = true := fun q hq => hck3 (q.i, q.o) (by rw [← c3]; exact List.mem_map.2 ⟨q, hq, rfl⟩)
            have hany : ops.toList.any (isApp E) = true := List.any_eq_true.2 ⟨o, List.mem_of_getElem? (by rw [Array.getElem?_toList]; exact hl (i, o) (by simp)), happ⟩
            refine ⟨⟨i, o, v, wr, ft, kl⟩ :: recs, f', c1, c2, by simp [c3], ⟨recOk_app hE hY hg hA hd hopd hn, fun j b hb => hwr _ hb, c4⟩, ?_⟩
            refine ⟨fun hm => (by cases hm), fun hm => List.pairwise_cons.2 ⟨fun q hq => .inl (hin q hq), c5.ord hm⟩, fun hm q hq => ?_, List.pairwise_cons.2 ⟨fun q hq _ => hin q hq, c5.kl⟩, ⟨fun q hq id' _ => .inl (hin q hq), c5.cln⟩, fun q hq id' hid => ?_⟩
            · rcases List.mem_cons.1 hq with rfl | hq
              · exact okFoot_ok hck1
              · exact fun y hy x hx => c5.log hm q hq y hy x (List.mem_append.2 (.inr hx))
            · rcases List.mem_cons.1 hq with rfl | hq
              · obtain ⟨bb, hid⟩ := hid
                exact ⟨rfl, hany, hkl _ hid, okNames_ok (hck2 _ hid)⟩
              · obtain ⟨g1, g2, g3, g4⟩ := c5.nam q hq id' hid
                exact ⟨g1, g2, g3, fun x hx => g4 x (List.mem_append.2 (.inr hx))⟩
          · cases h
        · rcases xop_ok hE h with ⟨v, f1, m1, ft, hk, hop⟩ | ⟨hdr, _⟩
          rotate_left
          · cases hdr
          obtain ⟨hf1, wr, hm1', hwr, hn⟩ := hop.drawn rfl
          subst hf1
          -- the record
          have hn' : ∀ (f2 : Fr) (m2 : Mem), (∀ x ∈ o.op.operands, opd E f2 x = opd E F x) → (∀ x ∈ ft, m2 x.2 = m x.2) → ∀ (R' : Type) (k' : V → Fr → Mem → Foot → Option R'), xop E true (siteOf E o.dst) o f2 m2 k' = k' v f2 (wrM wr m2) ft :=
            fun f2 m2 hf => hn f2 m2 fun x hx => by rw [hf x hx, hopd x hx]
          -- the next step
          have step : ∀ (wr' : List (Nat × Blk)) (lg' : Log), wrM wr' m = m1 → (mode = 1 → wr' = []) → (∀ id b, (id, b) ∈ wr' → (true, id) ∈ ft) → RecOk E ops w0 ⟨i, o, v, wr', ft, []⟩ F m → evalOps E ops mode fuel R A rest (frPut f1 o.dst v) m1 lg' k = some r →
              (mode = 2 → lg' = (bif ops.toList.any (isApp E) then (namesOf ops o f1 m m1 v ft).map (fun n => (i, false, nameTag n)) else []) ++ (ft.map (fun x => (i, x)) ++ lg) ∧ okFoot ops o lg ft = true) →
              ∃ (recs : List Rec) (f' : Fr), k f' (mAll m recs) = some r ∧ FLe f' (fAll F recs) ∧ recs.map (fun r => (r.i, r.o)) = (i, o) :: rest ∧ RecsOk E ops w0 F m recs ∧ RecsFit (E := E) ops mode F m lg recs := by
            intro wr' lg' hwm hw1 hw2 hrok hev hlg
            obtain ⟨recs, f', c1, c2, c3, c4, c5⟩ := evalOps_recs hE hY hmode fuel hev (fun x hx => hl x (by simp [hx])) (fun hm x hx => hrk hm x (by simp [hx])) (fun x hx => haw x (by simp [hx])) (frPut F o.dst v) (hF.put _ _) (Held.put hA fun g hgm t ht => haw (i, o) (by simp) g hgm t ht) (fun x hx t ht => by
              by_cases e : o.dst = some t
              · rw [e, frPut_eq, frPut_eq]
              · rw [frPut_ne e, frPut_ne e]; exact hseen x (by simp [hx]) t ht)
            subst hwm
            refine ⟨⟨i, o, v, wr', ft, []⟩ :: recs, f', c1, c2, by simp [c3], ⟨hrok, hw2, c4⟩, ?_⟩
            have hinlg : mode = 2 → ∀ x ∈ lg, x ∈ lg' := fun hm x hx => by rw [(hlg hm).1]; exact List.mem_append.2 (.inr (List.mem_append.2 (.inr hx)))
            have hinft : mode = 2 → ∀ x ∈ ft, (i, x) ∈ lg' := fun hm x hx => by rw [(hlg hm).1]; exact List.mem_append.2 (.inr (List.mem_append.2 (.inl (List.mem_map.2 ⟨x, hx, rfl⟩))))
            refine ⟨fun hm q hq => ?_, fun hm => List.pairwise_cons.2 ⟨fun q hq => ?_, c5.ord hm⟩, fun hm q hq => ?_, List.pairwise_cons.2 ⟨fun q hq h => absurd rfl h, c5.kl⟩, ⟨fun q hq id hid => ?_, c5.cln⟩, fun q hq id hid => ?_⟩
            · rcases List.mem_cons.1 hq with rfl | hq
              · exact ⟨hw1 hm, rfl⟩
              · exact c5.one hm q hq
            · have d2 := c5.log hm
              by_cases he : reach ops 4 q.o i = true
              · exact .inl he
              · refine .inr ⟨fun id b hb x hx hxi => ?_, fun id b hb x hx hxi => ?_⟩
                · rcases d2 q hq x hx (i, true, id) (hinft hm (true, id) (hw2 id b hb)) with h | h | h
                  · exact h hxi
                  · cases h.2
                  · exact he h
                · rcases d2 q hq (true, id) (RecsOk.wr c4 q hq id b hb) (i, x) (hinft hm x hx) with h | h | h
                  · exact h hxi.symm
                  · cases h.1
                  · exact he h
            · rcases List.mem_cons.1 hq with rfl | hq
              · exact okFoot_ok (hlg hm).2
              · exact fun y hy x hx => c5.log hm q hq y hy x (hinlg hm x hx)
            · obtain ⟨g1, g2, g3, g4⟩ := c5.nam q hq id hid
              by_cases he : reach ops 4 q.o i = true
              · exact .inl he
              · refine .inr (clean_of (hseen (i, o) (by simp)) hw2 (fun hmem => he (g4 (i, false, nameTag id) ?_ rfl)) fun x hx hxi => ?_)
                · rw [(hlg g1).1, g2]
                  exact List.mem_append.2 (.inl (List.mem_map.2 ⟨id, hmem, rfl⟩))
                · rcases c5.log g1 q hq (true, id) g3 (i, x) (hinft g1 x hx) with h | h | h
                  · exact h hxi.symm
                  · cases h.1
                  · exact he h
            · rcases List.mem_cons.1 hq with rfl | hq
              · obtain ⟨_, hid⟩ := hid
                cases hid
              · obtain ⟨g1, g2, g3, g4⟩ := c5.nam q hq id hid
                exact ⟨g1, g2, g3, fun x hx => g4 x (hinlg g1 x hx)⟩
          rcases hmode with rfl | rfl
          · simp only [Nat.beq, Bool.false_eq_true, if_false] at hk
            split at hk
            · rename_i hqf
              have hwn : wr = [] := by
                cases wr with
                | nil => rfl
                | cons x l => have := quietFt_ok hqf _ (hwr x (by simp)); cases this
              subst hwn
              exact step [] lg hm1'.symm (fun _ => rfl) (by simp) (recOk_of hE hg hA hd hn') hk (by simp)
            · cases hk
          · simp only [Nat.beq, if_true] at hk
            split at hk
            · rename_i hof
              exact step wr _ hm1'.symm (by simp) (fun id b hb => hwr _ hb) (recOk_of hE hg hA hd hn') hk fun _ => ⟨rfl, hof⟩
            · cases hk
      · cases h
    · rename_i j pol hg
      split at h
      · rename_i tj htj
        split at h
        · rename_i b hb
          generalize hsp : spanG A ((i, o) :: rest) = sp at h
          obtain ⟨body, rest1⟩ := sp
          have hsplit := spanG_ok hsp
          have hm0 : Nat.beq mode 0 = false := by rcases hmode with rfl | rfl <;> rfl
          simp only [hm0, Bool.false_and, Bool.false_eq_true, if_false] at h
          split at h
          · rename_i ip p rest'
            split at h
            · rename_i c x y hpop
              split at h
              · rename_i hc
                simp only [Bool.and_eq_true, List.all_eq_true, Bool.not_eq_true', beq_eq_false_iff_ne, ne_eq] at hc
                obtain ⟨⟨⟨⟨⟨⟨hctj, hpg⟩, hbody⟩, hgi⟩, hblind⟩, hpd⟩, hm2⟩ := hc
                have hmode1 : mode = 1 := by
                  rcases hmode with h | h
                  · exact h
                  · subst h; simp [Nat.beq] at hm2
                subst hmode1
                have hctj := Nat.eq_of_beq_eq_true hctj
                subst hctj
                have hpg : guardOf p A = none := by simpa using hpg
                obtain ⟨rb, hrb, h⟩ := Option.bind_eq_some_iff.1 h
                have hmem : ∀ z ∈ body, z ∈ (i, o) :: rest := fun z hz => by rw [hsplit]; simp [hz]
                have hmemr : ∀ z ∈ rest', z ∈ (i, o) :: rest := fun z hz => by rw [hsplit]; simp [hz]
                have hmemp : (ip, p) ∈ (i, o) :: rest := by rw [hsplit]; simp
                obtain ⟨htlt, hb⟩ := opd_tmp_pv hb
                have hFc : F c = .pv (.bool b) := by
                  rcases hF c with e | e
                  · rw [← e]; exact hb
                  · rw [e] at hb; cases hb
                -- what comes behind the group
                have after : ∀ (recsB : List Rec) (q : Operand), recsB.map (fun r => (r.i, r.o)) = body → RecsOk E ops w0 F m recsB → (∀ q ∈ recsB, q.wr = [] ∧ q.kl = []) → opd E (fAll F recsB) q = .pv (.bool rb) → (q = if b then x else y) →
                    ∃ (recs : List Rec) (f' : Fr), k f' (mAll m recs) = some r ∧ FLe f' (fAll F recs) ∧ recs.map (fun r => (r.i, r.o)) = body ++ (ip, p) :: rest' ∧ RecsOk E ops w0 F m recs ∧ (∀ q ∈ recs, q.wr = [] ∧ q.kl = []) := by
                  intro recsB q hmap hrecs hwn hq hqe
                  have hdst : ∀ t, (∀ z ∈ body, z.2.dst ≠ some t) → fAll F recsB t = F t := fun t ht => fAll_none fun q hq => ⟨ht (q.i, q.o) (by rw [← hmap]; exact List.mem_map.2 ⟨q, hq, rfl⟩), (hwn q hq).2⟩
                  have hA1 : Held E.fn.ntmps ops A (fAll F recsB) := fun g hgm => by
                    obtain ⟨t, h1, h0, h2⟩ := hA g hgm
                    exact ⟨t, h1, h0, by rw [hdst t fun z hz => haw z (hmem z hz) g hgm t h1]; exact h2⟩
                  have hb1 : fAll F recsB c = .pv (.bool b) := by rw [hdst c fun z hz => (hbody z hz).2]; exact hFc
                  have hrp : RecOk E ops w0 ⟨ip, p, .pv (.bool rb), [], [], []⟩ (fAll F recsB) m := recOk_of hE hpg hA1 hpd fun f2 m2 hf hm R' k' => by
                    have hb2 : opd E f2 (.tmp c) = .pv (.bool b) := by
                      have := hf (.tmp c) (by rw [hpop]; simp [Op.operands])
                      rw [this, opd_tmp htlt]; exact hb1
                    have hq2 : opd E f2 q = .pv (.bool rb) := by
                      rw [hf q (by rw [hpop, hqe]; cases b <;> simp [Op.operands])]; exact hq
                    rw [xop_pick hpop hb2, ← hqe, hq2]; rfl
                  obtain ⟨recs, f', c1, c2, c3, c4, c5⟩ := evalOps_recs hE hY (.inl rfl) fuel h (fun z hz => hl z (hmemr z hz)) (fun hm z hz => hrk hm z (hmemr z hz)) (fun z hz => haw z (hmemr z hz)) (frPut (fAll F recsB) p.dst (.pv (.bool rb)))
                    (FLe.put (topAll_le fun t ht => by rw [hdst t ht]; exact hF t) _ _) (Held.put hA1 fun g hgm t ht => haw (ip, p) hmemp g hgm t ht) (fun z hz t ht => by
                      by_cases e : p.dst = some t
                      · rw [e, frPut_eq, frPut_eq]
                      · have hnb : ∀ u ∈ body, u.2.dst ≠ some t := fun u hu hud => by
                          have h1 := hblind z hz
                          simp only [blind, List.all_eq_true] at h1
                          have h2 := h1 u hu
                          rw [hud] at h2
                          simp only [Bool.not_eq_true'] at h2
                          have : (z.2.looksAt ops).elem t = true := by simpa using ht
                          rw [this] at h2; cases h2
                        rw [frPut_ne e, frPut_ne e, topAll_ne hnb, hdst t hnb]
                        exact hseen z (hmemr z hz) t ht)
                  have hmB : mAll m recsB = m := mAll_none hwn
                  refine ⟨recsB ++ ⟨ip, p, .pv (.bool rb), [], [], []⟩ :: recs, f', ?_, ?_, by simp [hmap, c3], ?_, fun q hq => ?_⟩
                  · rw [mAll_append, hmB]; exact c1
                  · rw [fAll_append]; exact c2
                  · refine RecsOk.append.2 ⟨hrecs, ?_⟩
                    rw [hmB]
                    exact ⟨hrp, by simp, c4⟩
                  · rcases List.mem_append.1 hq with h | h
                    · exact hwn q h
                    · rcases List.mem_cons.1 h with rfl | h
                      · exact ⟨rfl, rfl⟩
                      · exact c5.one rfl q h
                have fin : (∃ (recs : List Rec) (f' : Fr), k f' (mAll m recs) = some r ∧ FLe f' (fAll F recs) ∧ recs.map (fun r => (r.i, r.o)) = body ++ (ip, p) :: rest' ∧ RecsOk E ops w0 F m recs ∧ (∀ q ∈ recs, q.wr = [] ∧ q.kl = [])) →
                    ∃ (recs : List Rec) (f' : Fr), k f' (mAll m recs) = some r ∧ FLe f' (fAll F recs) ∧ recs.map (fun r => (r.i, r.o)) = (i, o) :: rest ∧ RecsOk E ops w0 F m recs ∧ RecsFit (E := E) ops 1 F m lg recs := by
                  rintro ⟨recs, f', c1, c2, c3, c4, c5⟩
                  exact ⟨recs, f', c1, c2, by rw [hsplit]; exact c3, c4, fun _ => c5, fun h => (by cases h), fun h => (by cases h), List.Pairwise.imp_of_mem (R := fun _ _ => True) (fun {q r} hq hr _ h => absurd (c5 q hq).2 h) (List.pairwise_of_forall fun _ _ => trivial), CleanOk.none fun q hq => (c5 q hq).2, fun q hq id ⟨_, hid⟩ => (by rw [(c5 q hq).2] at hid; cases hid)⟩
                have go : ∀ q, b = pol → (q = if b then x else y) → evalOps E ops 1 fuel Bool ((j, pol) :: A) body f m lg (fun f _ => boolV (opd E f q)) = some rb →
                    ∃ (recs : List Rec) (f' : Fr), k f' (mAll m recs) = some r ∧ FLe f' (fAll F recs) ∧ recs.map (fun r => (r.i, r.o)) = body ++ (ip, p) :: rest' ∧ RecsOk E ops w0 F m recs ∧ (∀ q ∈ recs, q.wr = [] ∧ q.kl = []) := by
                  intro q hbp hq hev
                  obtain ⟨recsB, f1, c1, c2, c3, c4, c5⟩ := evalOps_recs hE hY (.inl rfl) fuel hev (fun z hz => hl z (hmem z hz)) (fun hm z hz => hrk hm z (hmem z hz)) (fun z hz g hgm t ht => by
                    rcases List.mem_cons.1 hgm with rfl | hgm
                    · simp only [htj] at ht
                      cases ht
                      exact (hbody z hz).2
                    · exact haw z (hmem z hz) g hgm t ht) F hF (fun g hgm => by
                    rcases List.mem_cons.1 hgm with rfl | hgm
                    · exact ⟨c, htj, htlt, by rw [hFc, hbp]⟩
                    · exact hA g hgm) (fun z hz => hseen z (hmem z hz))
                  refine after recsB q c3 c4 (c5.one rfl) ?_ hq
                  have hv := boolV_ok c1
                  rcases opd_le (E := E) c2 q with e | e
                  · rw [← e]; exact hv
                  · rw [e] at hv; cases hv
                have no : ∀ q, b = !pol → (q = if b then x else y) → boolV (opd E (topAll f body) q) = some rb →
                    ∃ (recs : List Rec) (f' : Fr), k f' (mAll m recs) = some r ∧ FLe f' (fAll F recs) ∧ recs.map (fun r => (r.i, r.o)) = body ++ (ip, p) :: rest' ∧ RecsOk E ops w0 F m recs ∧ (∀ q ∈ recs, q.wr = [] ∧ q.kl = []) := by
                  intro q hbp hq hev
                  obtain ⟨s1, s2⟩ := recs_skip (E := E) (w0 := w0) (m := m) body F (fun z hz => (hbody z hz).1.2) (dead_all htj hgi (fun z hz => hl z (hmem z hz)) (fun z hz => (hbody z hz).2) (by rw [hFc, hbp]) (by simp))
                  refine after (body.map skipRec) q (by simp [skipRec, Function.comp_def]) s1 (fun u hu => by obtain ⟨z, _, rfl⟩ := List.mem_map.1 hu; exact ⟨rfl, rfl⟩) ?_ hq
                  rw [s2]
                  have hv := boolV_ok hev
                  have hle : FLe (topAll f body) (skipAll F body) := topAll_le fun t ht => by rw [skipAll_ne ht]; exact hF t
                  rcases opd_le (E := E) hle q with e | e
                  · rw [← e]; exact hv
                  · rw [e] at hv; cases hv
                refine fin ?_
                cases pol <;> cases b <;> simp only [cond] at hrb
                · exact go y rfl rfl hrb
                · exact no x rfl rfl hrb
                · exact no y rfl rfl hrb
                · exact go x rfl rfl hrb
              · cases h
            · cases h
          · cases h
        · cases h
      · cases h

theorem mem_zip_range {l : List Oper} {i : Nat} {o : Oper} : (i, o) ∈ (List.range l.length).zip l ↔ l[i]? = some o := by
  rw [List.mem_iff_getElem?]
  constructor
  · rintro ⟨n, hn⟩
    rw [List.getElem?_zip_eq_some] at hn
    obtain ⟨h1, h2⟩ := hn
    rw [List.getElem?_range (by have := (List.getElem?_eq_some_iff.1 h2).1; omega)] at h1
    simp only [Option.some.injEq] at h1
    subst h1; exact h2
  · intro h
    refine ⟨i, List.getElem?_zip_eq_some.2 ⟨?_, h⟩⟩
    exact List.getElem?_range (by have := (List.getElem?_eq_some_iff.1 h).1; omega)

theorem indep_ok : ∀ {l done : List (Nat × Oper)}, indepOk ops done l = true →
    (∀ x ∈ l, ∀ d ∈ done, reach ops 4 x.2 d.1 = true ∨ d.2.apart ops x.2 = true) ∧ l.Pairwise (fun q r => reach ops 4 r.2 q.1 = true ∨ q.2.apart ops r.2 = true) ∧ ∀ x ∈ l, ∀ e ∈ x.2.after, Region.binds .any e = true → e.on < x.1
  | [], _, _ => ⟨by simp, .nil, by simp⟩
  | (i, o) :: r, done, h => by
    simp only [indepOk, Bool.and_eq_true] at h
    obtain ⟨⟨h1, h2⟩, h3⟩ := h
    obtain ⟨i1, i2, i3⟩ := indep_ok h3
    have hap : ∀ {done : List (Nat × Oper)}, apartFrom ops done o = true → ∀ d ∈ done, reach ops 4 o d.1 = true ∨ d.2.apart ops o = true := by
      intro done
      induction done with
      | nil => intro _ d hd; cases hd
      | cons x l ih =>
        intro h d hd
        simp only [apartFrom, Bool.and_eq_true, Bool.or_eq_true] at h
        rcases List.mem_cons.1 hd with rfl | hd
        · exact h.1.symm
        · exact ih h.2 d hd
    refine ⟨fun x hx d hd => ?_, List.pairwise_cons.2 ⟨fun x hx => i1 x hx (i, o) (by simp), i2⟩, fun x hx e he hb => ?_⟩
    · rcases List.mem_cons.1 hx with rfl | hx
      · exact hap h2 d hd
      · exact i1 x hx d (by simp [hd])
    · rcases List.mem_cons.1 hx with rfl | hx
      · have := List.all_eq_true.1 h1 e (Array.mem_toList_iff.2 he)
        simp only [hb, Bool.not_true, Bool.false_or] at this
        rwa [Nat.blt_eq] at this
      · exact i3 x hx e he hb
theorem region_any {rd : Option Nat} (hE : EnvOk E) (hY : YlOk E.P E.glob E.fn.ntmps E.yl w0) {mode : Nat} (hmode : mode = 1 ∨ mode = 2) (hrk : mode = 1 → ∀ o ∈ ops, readKind o = true) {R : Type} {f : Fr} {m : Mem} {k : Fr → Mem → Option R} {r : R}
    (hi : indepOk ops [] ((List.range ops.size).zip ops.toList) = true) {fuel : Nat} (h : evalOps E ops mode fuel R [] ((List.range ops.size).zip ops.toList) f m [] k = some r) {μ : Ro} {φ : Nat → Phys} {a : Act} {w : World}
    (hR : Rel E.P E.glob E.fn.ntmps w0 μ φ f m a w) {Q : Exit → Act → World → Prop}
    (hQ : ∀ f' m' μ' φ' a' w', k f' m' = some r → Rel E.P E.glob E.fn.ntmps w0 μ' φ' f' m' a' w' → Q .normal a' w') : wpAnyIn (FR rd) 0 E.P .any ops Q ops.size (Array.replicate ops.size false) a w := by
  have hmz : ∀ x ∈ (List.range ops.size).zip ops.toList, ops[x.1]? = some x.2 := fun x hx => by
    have := (mem_zip_range (l := ops.toList) (i := x.1) (o := x.2)).1 (by simpa using hx)
    rwa [Array.getElem?_toList] at this
  obtain ⟨recs, f', c1, c2, c3, c4, c5⟩ := evalOps_recs (w0 := w0) hE hY hmode fuel h hmz (fun hm x hx => hrk hm x.2 (Array.mem_of_getElem? (hmz x hx))) (by intro x hx g hg; cases hg) f (FLe.refl f) (by intro g hg; cases hg) (fun _ _ _ _ => rfl)
  obtain ⟨_, i2, i3⟩ := indep_ok hi
  have hmem : ∀ q ∈ recs, (q.i, q.o) ∈ (List.range ops.size).zip ops.toList := fun q hq => by rw [← c3]; exact List.mem_map.2 ⟨q, hq, rfl⟩
  have hap : recs.Pairwise fun q r => reach ops 4 r.o q.i = true ∨ q.o.apart ops r.o = true := by rw [← c3, List.pairwise_map] at i2; exact i2
  have hmo : recs.Pairwise (MemOrd (ops := ops)) := by
    rcases hmode with hm | hm
    · exact List.Pairwise.imp_of_mem (fun {q r} hq hr _ => .inr ⟨fun id b hb => (by rw [(c5.one hm q hq).1] at hb; cases hb), fun id b hb => (by rw [(c5.one hm r hr).1] at hb; cases hb)⟩) hap
    · exact c5.ord hm
  refine any_order (E := E) (w0 := w0) (recs := recs) (f0 := f) (m0 := m) ?_ (fun q hq => hmz _ (hmem q hq)) (fun i o ho => ?_) ?_ c5.kl c5.cln (fun q hq => i3 _ (hmem q hq)) c4 (fun μ φ a w hR => hQ _ _ μ φ a w c1 (hR.weaken c2)) ops.size _ (by simp) ?_ ?_ μ φ a w ?_
  · have h1 : (recs.map fun r => (r.i, r.o)).map Prod.fst = List.range ops.size := by rw [c3, List.map_fst_zip (by simp)]
    rw [List.map_map] at h1
    have h2 : (recs.map (Prod.fst ∘ fun r => (r.i, r.o))).Pairwise (· < ·) := by rw [h1]; exact List.pairwise_lt_range
    rw [List.pairwise_map] at h2
    exact h2
  · have : (i, o) ∈ (List.range ops.size).zip ops.toList := by
      have := (mem_zip_range (l := ops.toList) (i := i) (o := o)).2 (by rw [Array.getElem?_toList]; exact ho)
      simpa using this
    rw [← c3] at this
    obtain ⟨q, hq, he⟩ := List.mem_map.1 this
    simp only [Prod.mk.injEq] at he
    exact ⟨q, hq, he.1, he.2⟩
  · refine List.Pairwise.imp (fun {q r} h => ?_) (List.Pairwise.and hap hmo)
    obtain ⟨h1, h2⟩ := h
    rcases h1 with h1 | h1
    · exact .inl h1
    · rcases h2 with h2 | h2
      · exact .inl h2
      · exact .inr ⟨h1, h2⟩
  · have := List.countP_le_length (p := fun b => !b) (l := (Array.replicate ops.size false).toList)
    simpa using this
  · intro q hq hqi
    simp [listed?, Array.getD_eq_getD_getElem?, Array.getElem?_replicate] at hqi
    split at hqi <;> simp at hqi
  · have hS : ∀ j, listed? (Array.replicate ops.size false) j = false := fun j => by
      simp only [listed?, Array.getD_eq_getD_getElem?, Array.getElem?_replicate]
      split <;> rfl
    rw [show fSel (listed? (Array.replicate ops.size false)) f recs = f from funext fun t => fSel_none fun q _ hs => (by rw [hS] at hs; cases hs), show mSel (listed? (Array.replicate ops.size false)) m recs = m from funext fun t => mSel_none fun q _ hs => (by rw [hS] at hs; cases hs)]
    exact hR
end
end Go.Ab
