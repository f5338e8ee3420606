/- Operations in a region: in the text's order, and in any order that the edges allow. -/
import Derived.Test.YtnbhhepiekhbjaaGreatAbOps15
import Derived.OrdersIn
set_option linter.unusedVariables false
namespace Go.Ab
open Go.RowKit (Below)
def FLe (f F : Fr) : Prop := ∀ t, f t = F t ∨ f t = .top

theorem FLe.refl (f : Fr) : FLe f f := fun _ => .inl rfl
theorem FLe.put {f F : Fr} (h : FLe f F) (d : Option Nat) (v : V) : FLe (frPut f d v) (frPut F d v) := by
  intro t
  cases d with
  | none => exact h t
  | some d =>
    simp only [frPut, frSet]
    cases Nat.beq t d
    · exact h t
    · exact .inl rfl
theorem frPut_ne {f : Fr} {d : Option Nat} {v : V} {t : Nat} (h : d ≠ some t) : frPut f d v t = f t := by
  cases d with
  | none => rfl
  | some d => exact frSet_ne (fun e => h (by rw [e]))
theorem frPut_eq {f : Fr} {v : V} {t : Nat} : frPut f (some t) v t = v := by
  simp [frPut, frSet, Nat.beq_refl]

section
variable {E : Env} {ops : Array Oper} {w0 : Base}

theorem Rel.weaken {nt : Nat} {μ : Ro} {φ : Nat → Phys} {f f' : Fr} {m : Mem} {a : Act} {w : World} (h : Rel E.P E.glob nt w0 μ φ f m a w) (hf : FLe f' f) : Rel E.P E.glob nt w0 μ φ f' m a w :=
  { h with
    fr := fun t => by
      rcases hf t with e | e
      · rw [e]; exact h.fr t
      · rw [e]; exact .top
    live := fun t id hid => by
      rcases hf t with e | e
      · rw [e] at hid; exact h.live t id hid
      · rw [e] at hid; cases hid }

theorem put_getD {a : Act} {d t : Nat} {y : Value} (hd : d < a.tmps.size) : (a.put (some d) y).tmps.getD t undef = if t = d then y else a.tmps.getD t undef := by
  simp only [Act.put, Array.getD_eq_getD_getElem?, Array.getElem?_setIfInBounds]
  by_cases e : d = t
  · subst e; simp [hd]
  · have e' : ¬ t = d := fun h => e h.symm
    simp [e, e']

theorem Rel.put {nt : Nat} {μ μ' : Ro} {φ φ' : Nat → Phys} {f f' : Fr} {m m' : Mem} {a : Act} {w w' : World} (h : Rel E.P E.glob nt w0 μ φ f m a w) (hle : RoLe μ μ') {dst : Option Nat} {v : V} {y : Value} (hd : ∀ d, dst = some d → d < nt)
    (hM : RelM E.P E.glob w0 μ' φ' m' w') (hF : FrOk E.P μ' φ' m' f' (slots nt w0 a)) (hv : RepV E.P μ' φ' v y) (hl : ∀ id, v.has id = true → (m' id).isSome = true) : Rel E.P E.glob nt w0 μ' φ' (frPut f' dst v) m' (a.put dst y) w' := by
  refine { toRelM := hM, size := ?_, defers := ?_, old := h.old, fr := fun t => ?_, live := fun t id hid => ?_ }
  · cases dst <;> simp [Act.put, h.size]
  · cases dst <;> exact h.defers.mono hle
  · cases dst with
    | none => exact hF.fr t
    | some d =>
      have hlt : d < a.tmps.size := by rw [h.size]; exact hd d rfl
      have hf := hF.fr t
      by_cases e : t = d
      · subst e
        rw [slots_lt (hd t rfl), put_getD hlt, if_pos rfl, frPut_eq]; exact hv
      · rw [frPut_ne (by simpa using fun h => e h.symm)]
        unfold slots at hf ⊢
        split
        · rename_i ht
          rw [if_pos ht] at hf
          rw [put_getD hlt, if_neg e]; exact hf
        · rename_i ht
          rw [if_neg ht] at hf; exact hf
  · by_cases e : dst = some t
    · subst e; rw [frPut_eq] at hid; exact hl id hid
    · rw [frPut_ne e] at hid; exact hF.live t id hid

theorem opd_tmp {f : Fr} {t : Nat} (h : t < E.fn.ntmps) : opd E f (.tmp t) = f t := by
  simp only [opd]
  rw [show Nat.blt t E.fn.ntmps = true by rw [Nat.blt_eq]; exact h]; rfl
theorem opd_tmp_pv {f : Fr} {t : Nat} {p : PV} (h : opd E f (.tmp t) = .pv p) : t < E.fn.ntmps ∧ f t = .pv p := by
  simp only [opd] at h
  cases e : Nat.blt t E.fn.ntmps with
  | true => rw [e] at h; exact ⟨by rwa [Nat.blt_eq] at e, h⟩
  | false => rw [e] at h; cases h
theorem opd_le {f F : Fr} (h : FLe f F) (q : Operand) : opd E f q = opd E F q ∨ opd E f q = .top := by
  cases q with
  | tmp t =>
    simp only [opd]
    cases Nat.blt t E.fn.ntmps with
    | true => exact h t
    | false => exact .inr rfl
  | _ => exact .inl rfl
def Held (nt : Nat) (ops : Array Oper) (A : List (Nat × Bool)) (f : Fr) : Prop := ∀ g ∈ A, ∃ t, (ops[g.1]?).bind (·.dst) = some t ∧ t < nt ∧ f t = .pv (.bool g.2)
def HeldA (ops : Array Oper) (A : List (Nat × Bool)) (a : Act) : Prop := ∀ g ∈ A, ∃ t, (ops[g.1]?).bind (·.dst) = some t ∧ a.tmps.getD t undef = .bool g.2
def Away (ops : Array Oper) (A : List (Nat × Bool)) (l : List (Nat × Oper)) : Prop := ∀ x ∈ l, ∀ g ∈ A, ∀ t, (ops[g.1]?).bind (·.dst) = some t → x.2.dst ≠ some t

theorem Held.put {nt : Nat} {A : List (Nat × Bool)} {f : Fr} (h : Held nt ops A f) {d : Option Nat} {v : V} (hd : ∀ g ∈ A, ∀ t, (ops[g.1]?).bind (·.dst) = some t → d ≠ some t) : Held nt ops A (frPut f d v) := by
  intro g hg
  obtain ⟨t, h1, h0, h2⟩ := h g hg
  exact ⟨t, h1, h0, by rw [frPut_ne (hd g hg t h1)]; exact h2⟩

theorem dstOk_lt {o : Oper} (h : dstOk E o = true) : ∀ d, o.dst = some d → d < E.fn.ntmps := by
  intro d hd
  simp only [dstOk, hd] at h
  rw [Nat.blt_eq] at h; exact h

theorem yielded_of {a : Act} {j t : Nat} {b : Bool} (h : (ops[j]?).bind (·.dst) = some t) (hb : a.tmps.getD t undef = .bool b) : yielded ops a.tmps j = some b := by
  simp only [yielded, h, Option.bind_some]
  have : a.tmps[t]? = some (.bool b) := by
    rw [Array.getD_eq_getD_getElem?] at hb
    cases e : a.tmps[t]? with
    | none => rw [e] at hb; simp [undef] at hb
    | some x => rw [e] at hb; simpa using hb
  rw [this]

theorem wanted_of {a : Act} {o : Oper} {A : List (Nat × Bool)} (ho : guardOf o A = none) (hA : HeldA ops A a) :
    Region.wanted o (yielded ops a.tmps) = true := by
  unfold guardOf at ho
  unfold Region.wanted
  split at ho
  · rename_i hg; simp [hg]
  · rename_i g hg
    split at ho
    · rename_i hmem
      obtain ⟨t, h1, h2⟩ := hA g (by simpa using hmem)
      simp only [hg]
      rw [yielded_of h1 h2]
      simp
    · cases ho
theorem HeldA.put {A : List (Nat × Bool)} {a : Act} (h : HeldA ops A a) {d : Option Nat} {y : Value} (hs : ∀ t, d = some t → t < a.tmps.size) (hd : ∀ g ∈ A, ∀ t, (ops[g.1]?).bind (·.dst) = some t → d ≠ some t) : HeldA ops A (a.put d y) := by
  intro g hg
  obtain ⟨t, h1, h2⟩ := h g hg
  refine ⟨t, h1, ?_⟩
  cases d with
  | none => exact h2
  | some d =>
    rw [put_getD (hs d rfl), if_neg fun e => hd g hg t h1 (by rw [e])]
    exact h2
def Dead (ops : Array Oper) (f : Fr) (o : Oper) : Prop := ∃ g, o.guard = some g ∧ ∀ t, (ops[g.1]?).bind (·.dst) = some t → f t = .tup [] ∨ f t = .pv (.bool (!g.2))

theorem rep_undef {P : Program} {μ : Ro} {φ : Nat → Phys} {x : Value} (h : RepV P μ φ (.tup []) x) : x = undef := by
  cases h with
  | @tup _ xs h1 _ =>
    have : xs = #[] := Array.eq_empty_of_size_eq_zero (by simpa using h1.symm)
    subst this; rfl
theorem rep_undef' {P : Program} {μ : Ro} {φ : Nat → Phys} : RepV P μ φ (.tup []) undef := .tup rfl (by simp)

theorem dead_unwanted {nt : Nat} {μ : Ro} {φ : Nat → Phys} {f : Fr} {m : Mem} {a : Act} {w : World} (h : Rel E.P E.glob nt w0 μ φ f m a w) {o : Oper} (hd : Dead ops f o) : Region.wanted o (yielded ops a.tmps) = false := by
  obtain ⟨g, hg, ht⟩ := hd
  simp only [Region.wanted, hg]
  cases hs : (ops[g.1]?).bind (·.dst) with
  | none => simp [yielded, hs]
  | some t =>
    have hy : nt ≤ t → yielded ops a.tmps g.1 = none := fun hle => by
      simp only [yielded, hs, Option.bind_some]
      rw [Array.getElem?_eq_none (by rw [h.size]; exact hle)]
    by_cases hge : nt ≤ t
    · rw [hy hge]; rfl
    have hlt : t < nt := Nat.lt_of_not_le hge
    have h3 := h.fr t
    rw [slots_lt hlt] at h3
    rcases ht t hs with e | e
    · rw [e] at h3
      have h4 := rep_undef h3
      have : yielded ops a.tmps g.1 = none := by
        simp only [yielded, hs, Option.bind_some]
        rw [Array.getD_eq_getD_getElem?] at h4
        cases e : a.tmps[t]? with
        | none => rfl
        | some x =>
          rw [e] at h4
          simp only [Option.getD_some] at h4
          subst h4; rfl
      rw [this]; rfl
    · rw [e] at h3
      rw [yielded_of hs (rep_bool h3)]
      cases g.2 <;> rfl

theorem skipAll_ne {t : Nat} : ∀ {l : List (Nat × Oper)} {f : Fr}, (∀ x ∈ l, x.2.dst ≠ some t) → skipAll f l t = f t
  | [], _, _ => rfl
  | x :: r, f, h => by rw [skipAll, skipAll_ne (fun y hy => h y (by simp [hy])), frPut_ne (h x (by simp))]
theorem topAll_ne {t : Nat} : ∀ {l : List (Nat × Oper)} {f : Fr}, (∀ x ∈ l, x.2.dst ≠ some t) → topAll f l t = f t
  | [], _, _ => rfl
  | x :: r, f, h => by rw [topAll, topAll_ne (fun y hy => h y (by simp [hy])), frPut_ne (h x (by simp))]
theorem topAll_eq {t : Nat} : ∀ {l : List (Nat × Oper)} {f : Fr}, (f t = .top ∨ ∃ x ∈ l, x.2.dst = some t) → topAll f l t = .top
  | [], _, h => by
    rcases h with h | ⟨x, hx, _⟩
    · exact h
    · cases hx
  | x :: r, f, h => by
    rw [topAll]
    by_cases e : x.2.dst = some t
    · exact topAll_eq (.inl (by rw [e, frPut_eq]))
    · refine topAll_eq ?_
      rcases h with h | ⟨y, hy, hd⟩
      · exact .inl (by rw [frPut_ne e]; exact h)
      · rcases List.mem_cons.1 hy with rfl | hy
        · exact absurd hd e
        · exact .inr ⟨y, hy, hd⟩
theorem topAll_le {l : List (Nat × Oper)} {f F : Fr} (h : ∀ t, (∀ x ∈ l, x.2.dst ≠ some t) → f t = F t ∨ f t = .top) : FLe (topAll f l) F := by
  intro t
  by_cases e : ∃ x ∈ l, x.2.dst = some t
  · exact .inr (topAll_eq (.inr e))
  · have e' : ∀ x ∈ l, x.2.dst ≠ some t := fun x hx hd => e ⟨x, hx, hd⟩
    rw [topAll_ne e']; exact h t e'
theorem dead_all {g : Nat × Bool} {tj : Nat} (hj : (ops[g.1]?).bind (·.dst) = some tj) : ∀ {l : List (Nat × Oper)} {done : List Nat} {f : Fr}, guardsIn g done l = true → (∀ x ∈ l, ops[x.1]? = some x.2) → (∀ x ∈ l, x.2.dst ≠ some tj) →
    f tj = .pv (.bool (!g.2)) → (∀ j ∈ done, ∀ t, (ops[j]?).bind (·.dst) = some t → f t = .tup []) → ∀ (pre post : List (Nat × Oper)) (x : Nat × Oper), l = pre ++ x :: post → Dead ops (skipAll f pre) x.2
  | [], _, _, _, _, _, _, _, pre, post, x, h => by
    simp at h
  | y :: r, done, f, hg, hl, hd, hb, hdn, pre, post, x, h => by
    simp only [guardsIn, Bool.and_eq_true] at hg
    cases pre with
    | nil =>
      simp only [List.nil_append, List.cons.injEq] at h
      obtain ⟨rfl, rfl⟩ := h
      rw [skipAll]
      have h1 := hg.1
      split at h1
      · rename_i hh hgd
        refine ⟨hh, hgd, fun t ht => ?_⟩
        rcases Bool.or_eq_true_iff.1 h1 with h2 | h2
        · simp only [Bool.and_eq_true] at h2
          have e1 := Nat.eq_of_beq_eq_true h2.1
          have e2 : hh.2 = g.2 := by simpa using h2.2
          rw [e1] at ht
          rw [hj] at ht; cases ht
          exact .inr (by rw [e2]; exact hb)
        · exact .inl (hdn _ (by simpa using h2) t ht)
      · cases h1
    | cons z pre =>
      simp only [List.cons_append, List.cons.injEq] at h
      obtain ⟨rfl, h⟩ := h
      rw [skipAll]
      refine dead_all hj hg.2 (fun x hx => hl x (by simp [hx])) (fun x hx => hd x (by simp [hx])) (by rw [frPut_ne (hd y (by simp))]; exact hb) (fun j hjm t ht => ?_) pre post x h
      by_cases e : y.2.dst = some t
      · rw [e, frPut_eq]
      · rw [frPut_ne e]
        rcases List.mem_cons.1 hjm with rfl | hjm
        · rw [hl y (by simp)] at ht
          exact absurd ht e
        · exact hdn j hjm t ht

theorem spanG_ok {A : List (Nat × Bool)} : ∀ {l a b : List (Nat × Oper)}, spanG A l = (a, b) → l = a ++ b
  | [], a, b, h => by simp [spanG] at h; obtain ⟨rfl, rfl⟩ := h; rfl
  | x :: r, a, b, h => by
    simp only [spanG] at h
    split at h
    · cases hs : spanG A r with
      | mk a' b' =>
        rw [hs] at h
        simp only [Prod.mk.injEq] at h
        obtain ⟨rfl, rfl⟩ := h
        rw [spanG_ok hs]; rfl
    · simp only [Prod.mk.injEq] at h
      obtain ⟨rfl, rfl⟩ := h; rfl

theorem boolV_ok {v : V} {b : Bool} (h : boolV v = some b) : v = .pv (.bool b) := by
  unfold boolV at h
  split at h
  · cases h; rfl
  · cases h
theorem op_at (hE : EnvOk E) {site : Nat} {draw : Bool} {o : Oper} {f : Fr} {m : Mem} {v : V} {f' : Fr} {m' : Mem} {ft : Foot}
    (hn : draw = true ∨ ∃ c x y, o.op = .pick c x y)
    (h : ∀ (R' : Type) (k' : V → Fr → Mem → Foot → Option R'), xop E draw site o f m k' = k' v f' m' ft) : OpOk E draw site o f m v f' m' ft := by
  have hx := xop_ok hE (h (V × Fr × Mem × Foot) fun v f m ft => some (v, f, m, ft))
  rcases hx with ⟨v1, f1, m1, ft1, h1, h2⟩ | ⟨h1, h2, _⟩
  rotate_left
  · rcases hn with hn | ⟨c, x, y, hn⟩
    · rw [hn] at h1; cases h1
    · exact absurd hn (h2 c x y)
  simp only [Option.some.injEq, Prod.mk.injEq] at h1
  obtain ⟨rfl, rfl, rfl, rfl⟩ := h1
  exact h2

theorem xop_pick {R : Type} {site : Nat} {draw : Bool} {p : Oper} {c : Nat} {x y : Operand} {b : Bool} {f : Fr} {m : Mem} {k : V → Fr → Mem → Foot → Option R} (hp : p.op = .pick (.tmp c) x y) (hb : opd E f (.tmp c) = .pv (.bool b)) :
    xop E draw site p f m k = k (opd E f (if b then x else y)) f m [] := by
  simp only [xop, hp, hb]
  cases b <;> rfl
end
end Go.Ab
