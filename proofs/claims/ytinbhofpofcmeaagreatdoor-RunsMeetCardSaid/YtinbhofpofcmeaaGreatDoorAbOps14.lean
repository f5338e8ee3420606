/- The abstract operations are right, fourteenth part: calls of functions of which a contract is known. -/
import Derived.Test.YtinbhofpofcmeaaGreatDoorAbP4
import Derived.RangeFuncRecord
set_option linter.unusedVariables false
namespace Go.Ab
open Go.RowKit (Below)
def SoundF (P : Program) (G : Nat → Option (List PV)) (g : FuncId) (M : List PV → Option PV) : Prop :=
  (∃ fn c, P.funcs[g]? = some fn ∧ fn.body = some c ∧ (fn.name == "runtime.NumGoroutine") = false) ∧
  ∀ (ps : List PV) (r : PV), M ps = some r → ∀ (w : World) (μ : Ro) (xs : Array Value), (∀ b o, μ b = some o → w.heap[b]? = some o) → (∀ g cs, G g = some cs → VarIs P μ g cs) →
    ps.length = xs.size → (∀ (i : Nat) p x, ps[i]? = some p → xs[i]? = some x → RepPV P μ p x) →
    Calls P g xs w fun e w' => ∃ y, e = .returned y ∧ Bel w.heap.size w w' ∧ RepPV P (roFresh μ w w') r y
def SoundO (P : Program) (G : Nat → Option (List PV)) (g : FuncId) (M : List PV → Option PV) : Prop :=
  (∃ fn c, P.funcs[g]? = some fn ∧ fn.body = some c ∧ (fn.name == "runtime.NumGoroutine") = false) ∧
  ∀ (fn : Func) (t e : TypeId), P.funcs[g]? = some fn → fn.resultTypes.toList = [t] → P.underlying t = some (.slice e) → ∀ (ps : List PV) (r : PV), M ps = some r → ∀ (w : World) (μ : Ro) (xs : Array Value), (∀ b o, μ b = some o → w.heap[b]? = some o) → (∀ g cs, G g = some cs → VarIs P μ g cs) →
    ps.length = xs.size → (∀ (i : Nat) p x, ps[i]? = some p → xs[i]? = some x → RepPV P μ p x) →
    Calls P g xs w fun en w' => ∃ (y : Value) (ph : Phys) (es : List PV), en = .returned y ∧ Bel w.heap.size w w' ∧ r = .rs (csz P e) es ∧ (∀ g, ph.g = some g → w.heap.size ≤ g) ∧ RepArr P (roBut (roFresh μ w w') ph.g) (fun _ => ph) w' 0 (csz P e) e es ∧ RepV P μ (fun _ => ph) (.os 0) y

def appM (m : Mem) : Option (Nat × Blk) → Mem
  | some (id, b) => memSet m id b
  | none => m
def InlOk (E : Env) (g : FuncId) (args : List V) (f : Fr) (m : Mem) (v : V) (f' : Fr) (m' : Mem) : Prop :=
  (∃ fn c, E.P.funcs[g]? = some fn ∧ fn.body = some c ∧ (fn.name == "runtime.NumGoroutine") = false) ∧
  ∀ (w0 : Base) (μ : Ro) (φ : Nat → Phys) (ρ : Nat → Value) (w : World) (xs : Array Value), RelM E.P E.glob w0 μ φ m w → FrOk E.P μ φ m f ρ → args.length = xs.size →
    (∀ (i : Nat) v x, args[i]? = some v → xs[i]? = some x → RepV E.P μ φ v x) → (∀ id, hasL id args = true → (m id).isSome = true) →
    Calls E.P g xs w fun e w' => ∃ y μ' φ', e = .returned y ∧ RelM E.P E.glob w0 μ' φ' m' w' ∧ FrOk E.P μ' φ' m' f' ρ ∧ RepV E.P μ' φ' v y ∧ ∀ id, v.has id = true → (m' id).isSome = true
def InlAll {R : Type} (P : Program) (G : Nat → Option (List PV)) (g : FuncId) (args : List V) (f : Fr) (m : Mem) (k : V → Fr → Mem → Option R) (r : R) : Prop :=
  (∃ fn c, P.funcs[g]? = some fn ∧ fn.body = some c ∧ (fn.name == "runtime.NumGoroutine") = false) ∧
  ∀ (w0 : Base) (μ : Ro) (φ : Nat → Phys) (ρ : Nat → Value) (w : World) (xs : Array Value), RelM P G w0 μ φ m w → FrOk P μ φ m f ρ → args.length = xs.size →
    (∀ (i : Nat) v x, args[i]? = some v → xs[i]? = some x → RepV P μ φ v x) → (∀ id, hasL id args = true → (m id).isSome = true) →
    Calls P g xs w fun e w' => ∃ v f' m' y μ' φ', k v f' m' = some r ∧ e = .returned y ∧ RelM P G w0 μ' φ' m' w' ∧ FrOk P μ' φ' m' f' ρ ∧ RepV P μ' φ' v y ∧ ∀ id, v.has id = true → (m' id).isSome = true
def YlOk (P : Program) (G : Nat → Option (List PV)) (nt : Nat) (yl : YL) (w0 : Base) : Prop :=
  ∀ (R : Type) site id args f m (k : V → Fr → Mem → Option R) r, yl R nt site id args f m k = some r →
    ∀ (μ : Ro) (φ : Nat → Phys) (ρ : Nat → Value) (w : World) (xs : Array Value), RelM P G w0 μ φ m w → FrOk P μ φ m f ρ → (∀ t, nt ≤ t → ρ t = w0.sv t) → args.length = xs.size →
    (∀ (i : Nat) v x, args[i]? = some v → xs[i]? = some x → RepV P μ φ v x) → (∀ id, hasL id args = true → (m id).isSome = true) → ∀ g, (φ id).g = some g →
    ∃ fn tmps assign body, (Instr.yield g xs).run P w = .ok (.round g fn tmps assign body) w ∧
      RoundIn Fence.wide 0 P g fn tmps assign body w fun e w' => ∃ v f' m' y μ' φ', k v f' m' = some r ∧ e = .returned y ∧ (∀ b o, μ b = some o → μ' b = some o) ∧ RelM P G w0 μ' φ' m' w' ∧ FrOk P μ' φ' m' f' ρ ∧ RepV P μ' φ' v y ∧ ∀ id, v.has id = true → (m' id).isSome = true
theorem ylOk_no (P : Program) (G : Nat → Option (List PV)) (nt : Nat) (w0 : Base) : YlOk P G nt noYl w0 := fun R site id args f m k r h => by cases h
theorem RelM.rekeep {P : Program} {G : Nat → Option (List PV)} {w0 : Base} {μ : Ro} {φ : Nat → Phys} {m : Mem} {w : World} (h : RelM P G w0 μ φ m w) {K : Ro} (hK : ∀ b o, K b = some o → μ b = some o) : RelM P G { w0 with keep := K } μ φ m w :=
  ⟨h.below, h.ro, h.glob, h.blk, h.own, h.inj, h.liveB, h.base, hK, h.lps⟩
theorem RelM.unkeep {P : Program} {G : Nat → Option (List PV)} {w0 : Base} {μ : Ro} {φ : Nat → Phys} {m : Mem} {w : World} {K : Ro} (h : RelM P G { w0 with keep := K } μ φ m w) (hK : ∀ b o, w0.keep b = some o → K b = some o) : RelM P G w0 μ φ m w :=
  ⟨h.below, h.ro, h.glob, h.blk, h.own, h.inj, h.liveB, h.base, fun b o hb => h.keep b o (hK b o hb), h.lps⟩
theorem YlOk.rekeep {P : Program} {G : Nat → Option (List PV)} {nt : Nat} {yl : YL} {w0 : Base} (h : YlOk P G nt yl w0) {K : Ro} (hK : ∀ b o, w0.keep b = some o → K b = some o) : YlOk P G nt yl { w0 with keep := K } :=
  fun R site id args f m k r hy μ φ ρ w xs hM hF hρ hl hr hlv g hg =>
    let ⟨fn, tmps, assign, body, y1, y2⟩ := h R site id args f m k r hy μ φ ρ w xs (hM.unkeep hK) hF hρ hl hr hlv g hg
    ⟨fn, tmps, assign, body, y1, y2.mono fun e w' ⟨v, f', m', y, μ', φ', a1, a2, a3, a4, a5⟩ => ⟨v, f', m', y, μ', φ', a1, a2, a3, a4.rekeep fun b o hb => a3 b o (hM.keep b o hb), a5⟩⟩
def RngAll {R : Type} (P : Program) (G : Nat → Option (List PV)) (g : FuncId) (yl : YL) (args : List V) (f : Fr) (m : Mem) (k : V → Fr → Mem → Option R) (r : R) : Prop :=
  ∃ fn c, P.funcs[g]? = some fn ∧ fn.body = some c ∧ (fn.name == "runtime.NumGoroutine") = false ∧
  ∀ (w0 : Base) (μ : Ro) (φ : Nat → Phys) (ρ : Nat → Value) (w : World) (xs : Array Value), RelM P G w0 μ φ m w → FrOk P μ φ m f ρ → args.length = xs.size →
    (∀ (i : Nat) v x, args[i]? = some v → xs[i]? = some x → RepV P μ φ v x) → (∀ id, hasL id args = true → (m id).isSome = true) →
    YlOk P G fn.ntmps yl { w0 with sv := fun t => ρ (t - fn.ntmps) } →
    Calls P g xs w fun e w' => ∃ v f' m' y μ' φ', k v f' m' = some r ∧ e = .returned y ∧ RelM P G w0 μ' φ' m' w' ∧ FrOk P μ' φ' m' f' ρ ∧ RepV P μ' φ' v y ∧ ∀ id, v.has id = true → (m' id).isSome = true

structure EnvOk (E : Env) : Prop where
  mixed : E.P.follows .mixedOrders = true
  lp : ∀ (S R : Type) (body : S → (S → Option R) → Option R) s r, E.lp.run body s = some r → ∃ n, loopS body n s = some r
  ctx : ∀ g M, E.ctx g = some M → SoundF E.P E.glob g M
  own : ∀ g M, E.own g = some M → SoundO E.P E.glob g M
  inl : ∀ (R : Type) g cid args f m (k : V → Fr → Mem → Option R) r, E.inl R g cid args f m k = some r → InlAll E.P E.glob g args f m k r
  rng : ∀ (R : Type) g cid yl args f m (k : V → Fr → Mem → Option R) r, E.rng R g cid yl args f m k = some r → RngAll E.P E.glob g yl args f m k r

section
variable {R : Type} {E : Env}

theorem mem_readsL {f : V → List Nat} {id : Nat} : ∀ {cs : List V}, id ∈ readsL f cs ↔ ∃ v ∈ cs, id ∈ f v
  | [] => by simp [readsL]
  | c :: r => by simp [readsL, mem_readsL (cs := r)]
theorem frzs_congr {g g' : V → Option PV} : ∀ {cs : List V}, (∀ v ∈ cs, g' v = g v) → frzs g' cs = frzs g cs
  | [], _ => rfl
  | c :: r, h => by simp only [frzs]; rw [h c (by simp), frzs_congr (cs := r) fun v hv => h v (by simp [hv])]
theorem frz_agree {m m2 : Mem} : ∀ (d : Nat) {v : V}, (∀ id ∈ readsV m d v, m2 id = m id) → frz m2 d v = frz m d v
  | 0, v, _ => rfl
  | d + 1, v, h => by
    cases v with
    | agg cs =>
      simp only [frz]
      rw [frzs_congr fun v hv => frz_agree d fun id hid => h id (by simp only [readsV]; exact mem_readsL.2 ⟨v, hv, hid⟩)]
    | tup cs =>
      simp only [frz]
      rw [frzs_congr fun v hv => frz_agree d fun id hid => h id (by simp only [readsV]; exact mem_readsL.2 ⟨v, hv, hid⟩)]
    | fn g cs =>
      simp only [frz]
      rw [frzs_congr fun v hv => frz_agree d fun id hid => h id (by simp only [readsV]; exact mem_readsL.2 ⟨v, hv, hid⟩)]
    | op id off =>
      have h0 := h id (by simp [readsV])
      simp only [frz, h0]
      split
      · rename_i cs hm
        rw [frzs_congr fun v hv => frz_agree d fun id' hid => h id' (by simp only [readsV, hm]; exact List.mem_cons_of_mem _ (mem_readsL.2 ⟨v, hv, hid⟩))]
      · rfl
    | oe id i off => simp only [frz, h id (by simp [readsV])]
    | os id => simp only [frz, h id (by simp [readsV])]
    | osub id lo len => simp only [frz, h id (by simp [readsV])]
    | om id => simp only [frz, h id (by simp [readsV])]
    | _ => rfl

theorem readsL_congr {g g' : V → List Nat} : ∀ {cs : List V}, (∀ v ∈ cs, g' v = g v) → readsL g' cs = readsL g cs
  | [], _ => rfl
  | c :: r, h => by simp only [readsL]; rw [h c (by simp), readsL_congr (cs := r) fun v hv => h v (by simp [hv])]
theorem reads_agree {m m2 : Mem} : ∀ (d : Nat) {v : V}, (∀ id ∈ readsV m d v, m2 id = m id) → readsV m2 d v = readsV m d v
  | 0, v, _ => rfl
  | d + 1, v, h => by
    cases v with
    | agg cs =>
      simp only [readsV]
      exact readsL_congr fun v hv => reads_agree d fun id hid => h id (by simp only [readsV]; exact mem_readsL.2 ⟨v, hv, hid⟩)
    | tup cs =>
      simp only [readsV]
      exact readsL_congr fun v hv => reads_agree d fun id hid => h id (by simp only [readsV]; exact mem_readsL.2 ⟨v, hv, hid⟩)
    | fn g cs =>
      simp only [readsV]
      exact readsL_congr fun v hv => reads_agree d fun id hid => h id (by simp only [readsV]; exact mem_readsL.2 ⟨v, hv, hid⟩)
    | op id off =>
      have h0 := h id (by simp [readsV])
      simp only [readsV, h0]
      split
      · rename_i cs hm
        rw [readsL_congr fun v hv => reads_agree d fun id' hid => h id' (by simp only [readsV, hm]; exact List.mem_cons_of_mem _ (mem_readsL.2 ⟨v, hv, hid⟩))]
      · rfl
    | _ => rfl
theorem ldTy_scalar {t : TypeId} {p : PV} {k : PV → Option R} {r : R} (hs : scalarT E t = true) (h : ldTy E t p k = some r) : ∃ q, (∀ (R' : Type) (k' : PV → Option R'), ldTy E t p k' = k' q) ∧ k q = some r ∧ ∀ (P : Program) (μ μ' : Ro) x, RepPV P μ p x → RepPV P μ' q x := by
  unfold scalarT at hs
  unfold ldTy at h
  split at h
  · rename_i q hu
    obtain ⟨n, hn, hk⟩ := Option.bind_eq_some_iff.1 h
    have hp : p = .int q n := by
      cases p <;> simp [asInt] at hn
      obtain ⟨rfl, rfl⟩ := hn; rfl
    exact ⟨.int q n, fun R' k' => by simp [ldTy, hu, hn], hk, fun P μ μ' x hx => by subst hp; cases hx with | int h => exact .int h⟩
  · rename_i hu
    obtain ⟨n, hn, hk⟩ := Option.bind_eq_some_iff.1 h
    have hp : p = .bool n := by
      cases p <;> simp [asBool] at hn
      subst hn; rfl
    exact ⟨.bool n, fun R' k' => by simp [ldTy, hu, hn], hk, fun P μ μ' x hx => by subst hp; cases hx; exact .bool⟩
  · rename_i hu
    obtain ⟨n, hn, hk⟩ := Option.bind_eq_some_iff.1 h
    have hp : p = .str n := by
      cases p <;> simp [asStr] at hn
      subst hn; rfl
    exact ⟨.str n, fun R' k' => by simp [ldTy, hu, hn], hk, fun P μ μ' x hx => by subst hp; cases hx with | str h => exact .str h⟩
  all_goals (rename_i hu; simp [hu] at hs)

theorem ldTys_ok : ∀ {ts : List TypeId} {ps : List PV} {k : List V → Option R} {r : R}, ldTys E ts ps k = some r →
    ∃ vs, (∀ (R' : Type) (k' : List V → Option R'), ldTys E ts ps k' = k' vs) ∧ k vs = some r ∧ vs.length = ps.length ∧ (∀ id, hasL id vs = false) ∧
      (∀ (P : Program) (μ : Ro) (φ : Nat → Phys) (i : Nat) p v x, ps[i]? = some p → vs[i]? = some v → RepPV P μ p x → RepV P μ φ v x) ∧
      (ts.all (scalarT E) = true → ∀ (P : Program) (μ μ' : Ro) (φ : Nat → Phys) (i : Nat) p v x, ps[i]? = some p → vs[i]? = some v → RepPV P μ p x → RepV P μ' φ v x)
  | [], [], k, r, h => ⟨[], fun R' k' => rfl, h, rfl, fun _ => rfl, by simp, by simp⟩
  | t :: ts, p :: ps, k, r, h => by
    simp only [ldTys] at h
    obtain ⟨q, q1, q2, q3, _⟩ := ldTy_ok h
    obtain ⟨vs, v1, v2, v3, v4, v5, v6⟩ := ldTys_ok q2
    refine ⟨.pv q :: vs, fun R' k' => by simp only [ldTys]; rw [q1, v1], v2, by simp [v3], fun id => by simp [hasL, v4], fun P μ φ i p' v x hp hv hx => ?_, fun hs P μ μ' φ i p' v x hp hv hx => ?_⟩
    · cases i with
      | zero => simp at hp hv; subst hp; subst hv; exact .pv (q3 _ _ _ hx)
      | succ i => exact v5 P μ φ i p' v x (by simpa using hp) (by simpa using hv) hx
    · simp only [List.all_cons, Bool.and_eq_true] at hs
      cases i with
      | zero =>
        simp at hp hv; subst hp; subst hv
        obtain ⟨q', s1, s2, s3⟩ := ldTy_scalar hs.1 h
        have : q' = q := by
          have e1 := s1 PV some
          have e2 := q1 PV some
          rw [e1] at e2; simpa using e2
        subst this
        exact .pv (s3 P μ μ' x hx)
      | succ i => exact v6 hs.2 P μ μ' φ i p' v x (by simpa using hp) (by simpa using hv) hx
  | [], p :: ps, k, r, h => by simp [ldTys] at h
  | t :: ts, [], k, r, h => by simp [ldTys] at h

theorem asTup_ok {n : Nat} {r : PV} {vs : List PV} (h : asTup n r = some vs) : r = .tup vs ∧ vs.length = n := by
  cases r <;> simp [asTup] at h
  obtain ⟨h1, h2⟩ := h; subst h2; exact ⟨rfl, h1⟩

theorem ldRes_ok {ts : List TypeId} {p : PV} {k : V → Option R} {r : R} (h : ldRes E ts p k = some r) :
    ∃ v, (∀ (R' : Type) (k' : V → Option R'), ldRes E ts p k' = k' v) ∧ k v = some r ∧ (∀ id, v.has id = false) ∧ (∀ (P : Program) (μ : Ro) (φ : Nat → Phys) x, RepPV P μ p x → RepV P μ φ v x) ∧
      (ts.all (scalarT E) = true → ∀ (P : Program) (μ μ' : Ro) (φ : Nat → Phys) x, RepPV P μ p x → RepV P μ' φ v x) := by
  unfold ldRes at h
  split at h
  · obtain ⟨vs, hv, hk⟩ := Option.bind_eq_some_iff.1 h
    obtain ⟨rfl, hl⟩ := asTup_ok hv
    have : vs = [] := List.eq_nil_of_length_eq_zero hl
    subst this
    have key : ∀ (P : Program) (μ μ' : Ro) (φ : Nat → Phys) x, RepPV P μ (.tup []) x → RepV P μ' φ (.tup []) x := fun P μ μ' φ x hx => by
      cases hx with
      | tup h1 h2 => exact .tup h1 (by simp)
    exact ⟨.tup [], fun R' k' => by simp [ldRes, hv], hk, by simp [V.has, hasL], fun P μ φ x hx => key P μ μ φ x hx, fun _ => key⟩
  · rename_i t
    obtain ⟨q, q1, q2, q3, _⟩ := ldTy_ok h
    refine ⟨.pv q, fun R' k' => by simp only [ldRes]; rw [q1], q2, by simp, fun P μ φ x hx => .pv (q3 _ _ _ hx), fun hs P μ μ' φ x hx => ?_⟩
    obtain ⟨q', s1, s2, s3⟩ := ldTy_scalar (by simpa using hs) h
    have : q' = q := by
      have e1 := s1 PV some
      have e2 := q1 PV some
      rw [e1] at e2; simpa using e2
    subst this
    exact .pv (s3 P μ μ' x hx)
  · rename_i hne1 hne2
    obtain ⟨vs, hv, hk⟩ := Option.bind_eq_some_iff.1 h
    obtain ⟨rfl, hl⟩ := asTup_ok hv
    obtain ⟨us, u1, u2, u3, u4, u5, u6⟩ := ldTys_ok hk
    have hlist : ((List.range ts.length).map fun j => vs.getD j .bad) = vs := by
      apply List.ext_getElem?
      intro j
      rw [List.getElem?_map]
      by_cases hj : j < ts.length
      · rw [List.getElem?_range hj]
        simp [List.getElem?_eq_getElem (show j < vs.length by omega)]
      · rw [List.getElem?_eq_none (by simp; omega), List.getElem?_eq_none (by omega)]; rfl
    rw [hlist] at u3 u5 u6
    refine ⟨.tup us, fun R' k' => ?_, u2, fun id => by simp [V.has, u4], fun P μ φ x hx => ?_, fun hs P μ μ' φ x hx => ?_⟩
    · unfold ldRes
      split
      · exact absurd rfl hne1
      · exact absurd rfl (hne2 _)
      · rw [hv]; simp only [Option.bind_some]; rw [u1]
    · cases hx with
      | tup h1 h2 =>
        refine .tup (by omega) fun i v y hv hy => ?_
        have hi : i < vs.length := by have := (List.getElem?_eq_some_iff.1 hv).1; omega
        exact u5 P μ φ i _ v y (List.getElem?_eq_getElem hi) hv (h2 i _ y (List.getElem?_eq_getElem hi) hy)
    · cases hx with
      | tup h1 h2 =>
        refine .tup (by omega) fun i v y hv hy => ?_
        have hi : i < vs.length := by have := (List.getElem?_eq_some_iff.1 hv).1; omega
        exact u6 hs P μ μ' φ i _ v y (List.getElem?_eq_getElem hi) hv (h2 i _ y (List.getElem?_eq_getElem hi) hy)

theorem freezeArgs_ok : ∀ {args : List V} {m m' : Mem} {ps : List PV}, freezeArgs m args = some (ps, m') → Lives m m' ∧ ps.length = args.length ∧
    ∀ (P : Program) (G : Nat → Option (List PV)) (w0 : Base) (μ : Ro) (φ : Nat → Phys) (w : World) (X : Nat → Value), RelM P G w0 μ φ m w → (∀ (i : Nat) u, args[i]? = some u → RepV P μ φ u (X i)) →
      ∃ μ', (∀ b o, μ b = some o → μ' b = some o) ∧ RelM P G w0 μ' φ m' w ∧ ∀ (i : Nat) p, ps[i]? = some p → RepPV P μ' p (X i)
  | [], m, m', ps, h => by
    simp only [freezeArgs, Option.some.injEq, Prod.mk.injEq] at h; obtain ⟨rfl, rfl⟩ := h
    exact ⟨.refl _, rfl, fun P G w0 μ φ w X hM _ => ⟨μ, fun _ _ h => h, hM, by simp⟩⟩
  | c :: r, m, m', ps, h => by
    simp only [freezeArgs] at h
    split at h
    · rename_i p m1 h1
      split at h
      · rename_i ps1 m2 h2
        simp only [Option.some.injEq, Prod.mk.injEq] at h; obtain ⟨rfl, rfl⟩ := h
        obtain ⟨a1, a2⟩ := frzVal_ok h1
        obtain ⟨b1, b2, b3⟩ := freezeArgs_ok h2
        refine ⟨a1.trans b1, by simp [b2], fun P G w0 μ φ w X hM hx => ?_⟩
        obtain ⟨μ1, c1, c2, c3⟩ := a2 P G w0 μ φ w (X 0) hM (hx 0 c (by simp))
        obtain ⟨μ2, d1, d2, d3⟩ := b3 P G w0 μ1 φ w (fun i => X (i + 1)) c2 (fun i u hu => (hx (i + 1) u (by simpa using hu)).monoR c1)
        refine ⟨μ2, fun b o h => d1 b o (c1 b o h), d2, fun i q hq => ?_⟩
        cases i with
        | zero => simp at hq; subst hq; exact c3.mono d1
        | succ i => exact d3 i q (by simpa using hq)
      · cases h
    · cases h
theorem frzVal_noMem {m' : Mem} {v : V} {p : PV} (h : frzVal noMem v = some (p, m')) : m' = noMem := by
  have key : ∀ {cs : List V} {m' : Mem} {ps : List PV}, frzSL noMem cs = some (ps, m') → m' = noMem := by
    intro cs
    induction cs with
    | nil => intro m' ps h; simp only [frzSL, Option.some.injEq, Prod.mk.injEq] at h; exact h.2.symm
    | cons c r ih =>
      intro m' ps h
      simp only [frzSL] at h
      split at h
      · rename_i p m1 h1
        have := frzS_noMem h1; subst this
        split at h
        · rename_i ps1 m2 h2
          simp only [Option.some.injEq, Prod.mk.injEq] at h
          rw [← h.2]; exact ih h2
        · cases h
      · cases h
  unfold frzVal at h
  split at h
  · split at h
    · rename_i hf; simp only [Option.some.injEq, Prod.mk.injEq] at h; rw [← h.2]; exact key hf
    · cases h
  · exact frzS_noMem h
theorem freezeArgs_pure : ∀ {args : List V} {m' : Mem} {ps : List PV}, freezeArgs noMem args = some (ps, m') → ps.length = args.length ∧
    ∀ (P : Program) (μ : Ro) (φ : Nat → Phys) (X : Nat → Value), (∀ (i : Nat) u, args[i]? = some u → RepV P μ φ u (X i)) → ∀ (i : Nat) p, ps[i]? = some p → RepPV P μ p (X i)
  | [], m', ps, h => by
    simp only [freezeArgs, Option.some.injEq, Prod.mk.injEq] at h; obtain ⟨rfl, rfl⟩ := h
    exact ⟨rfl, by simp⟩
  | c :: r, m', ps, h => by
    simp only [freezeArgs] at h
    split at h
    · rename_i p m1 h1
      have := frzVal_noMem h1; subst this
      split at h
      · rename_i ps1 m2 h2
        simp only [Option.some.injEq, Prod.mk.injEq] at h; obtain ⟨rfl, rfl⟩ := h
        obtain ⟨b2, b3⟩ := freezeArgs_pure h2
        refine ⟨by simp [b2], fun P μ φ X hx i q hq => ?_⟩
        cases i with
        | zero => simp at hq; subst hq; exact frzVal_pure h1 P μ φ _ (hx 0 c (by simp))
        | succ i => exact b3 P μ φ (fun i => X (i + 1)) (fun i u hu => hx (i + 1) u (by simpa using hu)) i q (by simpa using hq)
      · cases h
    · cases h

theorem RepArr.move {P : Program} {μ μ' : Ro} {φ φ' : Nat → Phys} {w : World} {i j sz : Nat} {et : TypeId} {es : List PV} (h : RepArr P μ φ w i sz et es) (hφ : φ' j = φ i) (hμ : ∀ b o, μ b = some o → μ' b = some o) : RepArr P μ' φ' w j sz et es := by
  unfold RepArr at *
  rw [hφ]
  obtain ⟨h1, h2, h3, h4, h5, h6, h7⟩ := h
  refine ⟨h1, h2, h3, h4, h5, h6, ?_⟩
  split at h7
  · exact h7
  · obtain ⟨c, c1, c2, c3, c4, c5⟩ := h7
    exact ⟨c, c1, c2, c3, fun i e j p x he hp hx => (c4 i e j p x he hp hx).mono hμ, c5⟩

theorem RepArr.scal {P : Program} {ν μ : Ro} {φ : Nat → Phys} {w : World} {i : Nat} {et : TypeId} {es : List PV} (h : RepArr P ν φ w i 1 et es) : RepArr P μ φ w i 1 et (es.map scalP) := by
  unfold RepArr at *
  obtain ⟨h1, h2, h3, h4, h5, h6, h7⟩ := h
  have hc : ∀ p : PV, (scalP p).cells.length = 1 := fun p => by cases p <;> rfl
  refine ⟨by simpa using h1, h2, h3, h4, fun j e he => ?_, h6, ?_⟩
  · simp only [List.getElem?_map, Option.map_eq_some_iff] at he
    obtain ⟨p, _, rfl⟩ := he
    exact hc p
  · split at h7
    · rw [h7.1]; exact ⟨rfl, h7.2⟩
    · obtain ⟨c, c1, c2, c3, c4, c5⟩ := h7
      refine ⟨c, c1, c2, by simpa using c3, fun j e l p x he hp hx => ?_, fun j x hj hx => c5 j x (by simpa using hj) hx⟩
      simp only [List.getElem?_map, Option.map_eq_some_iff] at he
      obtain ⟨q, hq, rfl⟩ := he
      have hl : l = 0 := by have := (List.getElem?_eq_some_iff.1 hp).1; have := hc q; omega
      subst hl
      cases q <;> (simp only [scalP, PV.cells, List.getElem?_cons_zero, Option.some.injEq] at hp; subst hp)
      case int => have := c4 j _ 0 _ x hq rfl hx; cases this with | int h => exact .int h
      case bool => have := c4 j _ 0 _ x hq rfl hx; cases this; exact .bool
      case str => have := c4 j _ 0 _ x hq rfl hx; cases this with | str h => exact .str h
      all_goals exact .bad
mutual
theorem rdL_ok : ∀ (s : FS) (p : PV) (a : List PV), rdL s p = some a → a.length = s.n ∧ ∀ r, bldF s (a ++ r) = (p, r)
  | .raw, p, a, h => by
    simp only [rdL, Option.some.injEq] at h; subst h
    exact ⟨rfl, fun r => rfl⟩
  | .fn g cs, p, a, h => by
    cases p <;> simp only [rdL] at h <;> try (cases h; done)
    split at h
    · rename_i e
      subst e
      obtain ⟨h1, h2⟩ := rdLs_ok cs _ a h
      exact ⟨by simp [FS.n, h1], fun r => by simp [bldF, h2 r]⟩
    · cases h
  | .ptr cs, p, a, h => by
    cases p <;> simp only [rdL] at h <;> try (cases h; done)
    obtain ⟨h1, h2⟩ := rdLs_ok cs _ a h
    exact ⟨by simp [FS.n, h1], fun r => by simp [bldF, h2 r]⟩
theorem rdLs_ok : ∀ (ss : List FS) (ps : List PV) (a : List PV), rdLs ss ps = some a → a.length = nFs ss ∧ ∀ r, bldFs ss (a ++ r) = (ps, r)
  | [], ps, a, h => by
    cases ps with
    | nil => simp only [rdLs, Option.some.injEq] at h; subst h; exact ⟨rfl, fun r => rfl⟩
    | cons p ps => simp [rdLs] at h
  | s :: ss, ps, a, h => by
    cases ps with
    | nil => simp [rdLs] at h
    | cons p ps =>
      simp only [rdLs] at h
      obtain ⟨x, hx, h⟩ := Option.bind_eq_some_iff.1 h
      obtain ⟨y, hy, h⟩ := Option.bind_eq_some_iff.1 h
      simp only [Option.some.injEq] at h; subst h
      obtain ⟨a1, a2⟩ := rdL_ok s p x hx
      obtain ⟨b1, b2⟩ := rdLs_ok ss ps y hy
      refine ⟨by simp [nFs, a1, b1], fun r => ?_⟩
      simp only [bldFs, List.append_assoc, a2, b2]
end
theorem rdL_bld {s : FS} {p : PV} {ls : List PV} (h : rdL s p = some ls) : (bldF s ((List.range s.n).map fun j => ls.getD j .bad)).1 = p := by
  obtain ⟨h1, h2⟩ := rdL_ok s p ls h
  have : ((List.range s.n).map fun j => ls.getD j .bad) = ls := by
    apply List.ext_getElem?
    intro j
    rw [List.getElem?_map]
    by_cases hj : j < s.n
    · rw [List.getElem?_range hj]
      simp [List.getElem?_eq_getElem (show j < ls.length by omega)]
    · rw [List.getElem?_eq_none (by simp; omega), List.getElem?_eq_none (by omega)]; rfl
  rw [this]
  have := h2 []
  rw [List.append_nil] at this
  rw [this]
theorem ldResF_ok {fid : FuncId} {ts : List TypeId} {p : PV} {k : V → Option R} {r : R} (h : ldResF E fid ts p k = some r) :
    ∃ v, (∀ (R' : Type) (k' : V → Option R'), ldResF E fid ts p k' = k' v) ∧ k v = some r ∧ (∀ id, v.has id = false) ∧ (∀ (P : Program) (μ : Ro) (φ : Nat → Phys) x, RepPV P μ p x → RepV P μ φ v x) ∧ True := by
  unfold ldResF at h
  split at h
  · rename_i s hs
    obtain ⟨ls, hl, hk⟩ := Option.bind_eq_some_iff.1 h
    refine ⟨_, fun R' k' => by simp only [ldResF, hs, hl, Option.bind_some], hk, fun id => rfl, fun P μ φ x hx => .pv ?_, trivial⟩
    rw [rdL_bld hl]; exact hx
  · rename_i hs
    obtain ⟨v, v1, v2, v3, v4, _⟩ := ldRes_ok h
    exact ⟨v, fun R' k' => by simp only [ldResF, hs]; exact v1 R' k', v2, v3, v4, trivial⟩
theorem xfunc_ok (hE : EnvOk E) {draw : Bool} {site : Nat} {g : FuncId} {args : List V} {f : Fr} {m : Mem} {k : V → Fr → Mem → Foot → Option R} {r : R} (h : xfunc E draw site g args f m k = some r) :
    (∃ v f' m' ft, k v f' m' ft = some r ∧ (draw = true → f' = f ∧ ∃ wr : Option (Nat × Blk), m' = appM m wr ∧ (∀ id b, wr = some (id, b) → (true, id) ∈ ft) ∧
      ∀ (f2 : Fr) (m2 : Mem), (∀ x ∈ ft, m2 x.2 = m x.2) → ∀ (R' : Type) (k' : V → Fr → Mem → Foot → Option R'), xfunc E true site g args f2 m2 k' = k' v f2 (appM m2 wr) ft) ∧
    ((∀ x ∈ ft, x.1 = false) → f' = f ∧ m' = m) ∧ InlOk E g args f m v f' m') ∨ (draw = false ∧ InlAll E.P E.glob g args f m (fun v f m => k v f m [(true, 0)]) r) := by
  have hX : ∀ (P : Program) (μ : Ro) (φ : Nat → Phys) (xs : Array Value), args.length = xs.size → (∀ (i : Nat) v x, args[i]? = some v → xs[i]? = some x → RepV P μ φ v x) → ∀ (i : Nat) u, args[i]? = some u → xs[i]? = some (xs.getD i undef) ∧ RepV P μ φ u (xs.getD i undef) := by
    intro P μ φ xs hl hr i u hu
    have hlt : i < xs.size := by have := (List.getElem?_eq_some_iff.1 hu).1; omega
    have : xs[i]? = some (xs.getD i undef) := by rw [Array.getElem?_eq_getElem hlt]; simp [Array.getD, hlt]
    exact ⟨this, hr i u _ hu this⟩
  unfold xfunc at h
  split at h
  · rename_i M hctx
    obtain ⟨hfn, hM⟩ := hE.ctx g M hctx
    split at h
    · rename_i fn hg
      split at h
      · rename_i hsc
        split at h
        · rename_i ps hps
          obtain ⟨p, hp, h⟩ := Option.bind_eq_some_iff.1 h
          obtain ⟨v, v1, v2, v3, v4, v5⟩ := ldRes_ok h
          refine .inl ⟨v, f, m, _, v2, fun hd => ⟨rfl, none, rfl, by simp, fun f2 m2 hm2 R' k' => ?_⟩, fun _ => ⟨rfl, rfl⟩, hfn, fun w0 μ φ ρ w xs hR hF hl hr hlv => ?_⟩
          · have hag : frzs (frz m2 frzDepth) args = frzs (frz m frzDepth) args := frzs_congr fun v hv => frz_agree _ fun id hid => hm2 (false, id) (by
              simp only [List.mem_map]; exact ⟨id, mem_readsL.2 ⟨v, hv, hid⟩, rfl⟩)
            have hrd : ((readsL (readsV m2 frzDepth) args).map fun i => (false, i)) = ((readsL (readsV m frzDepth) args).map fun i => (false, i)) := by
              have : readsL (readsV m2 frzDepth) args = readsL (readsV m frzDepth) args := readsL_congr fun v hv => reads_agree _ fun id hid => hm2 (false, id) (by
                simp only [List.mem_map]; exact ⟨id, mem_readsL.2 ⟨v, hv, hid⟩, rfl⟩)
              rw [this]
            simp only [xfunc, hctx, hg]
            rw [if_pos hsc]
            simp only [hag, hps, hp, Option.bind_some, hrd]
            rw [v1]; rfl
          · obtain ⟨p1, p2⟩ := frzs_ok hps
            refine (hM ps p hp w (heapOf w) xs (fun _ _ h => h) (fun g cs hg => (hR.glob g cs hg).mono hR.heap_ro) (by omega) (fun i q x hq hx => ?_)).mono ?_
            · obtain ⟨u, hu, hf⟩ := p2 i q hq
              exact frz_full hR hR.heap_ro (fun _ _ _ _ _ => rfl) _ hf (hr i u x hu hx)
            · rintro e w' ⟨y, rfl, hb, hy⟩
              exact ⟨y, roFresh μ w w', φ, rfl, hR.called hb, hF.lives (roFresh_mono hR w') (.refl _), v5 hsc E.P _ _ φ y hy, fun id hid => by rw [v3] at hid; cases hid⟩
        · cases h
      · rename_i hsc
        split at h
        · rename_i ps m1 hps
          obtain ⟨p, hp, h⟩ := Option.bind_eq_some_iff.1 h
          obtain ⟨v, v1, v2, v3, v4, v5⟩ := ldResF_ok h
          cases draw with
          | true =>
            simp only [if_true] at hps v2
            obtain ⟨q1, q2⟩ := freezeArgs_pure hps
            refine .inl ⟨v, f, m, _, v2, fun _ => ⟨rfl, none, rfl, by simp, fun f2 m2 hm2 R' k' => ?_⟩, fun _ => ⟨rfl, rfl⟩, hfn, fun w0 μ φ ρ w xs hR hF hl hr hlv => ?_⟩
            · simp only [xfunc, hctx, hg]
              rw [if_neg hsc]
              simp only [if_true, hps, hp, Option.bind_some]
              rw [v1]; rfl
            · refine (hM ps p hp w μ xs hR.ro hR.glob (by omega) (fun i q x hq hx => ?_)).mono ?_
              · have := q2 E.P μ φ (fun i => xs.getD i undef) (fun i u hu => (hX E.P μ φ xs hl hr i u hu).2) i q hq
                have hlt : i < xs.size := (Array.getElem?_eq_some_iff.1 hx).1
                have e : xs.getD i undef = x := by rw [Array.getElem?_eq_getElem hlt] at hx; simp only [Option.some.injEq] at hx; simp [Array.getD, hlt, hx]
                rw [← e]; exact this
              · rintro e w' ⟨y, rfl, hb, hy⟩
                exact ⟨y, roFresh μ w w', φ, rfl, hR.called hb, hF.lives (roFresh_mono hR w') (.refl _), v4 E.P _ φ y hy, fun id hid => by rw [v3] at hid; cases hid⟩
          | false =>
            simp only [Bool.false_eq_true, if_false] at hps v2
            obtain ⟨q0, q1, q2⟩ := freezeArgs_ok hps
            refine .inl ⟨v, f, m1, _, v2, fun hd => by (cases hd), fun hq => absurd (hq (true, 0) (by simp)) (by simp), hfn, fun w0 μ φ ρ w xs hR hF hl hr hlv => ?_⟩
            obtain ⟨μ1, r1, r2, r3⟩ := q2 E.P E.glob w0 μ φ w (fun i => xs.getD i undef) hR (fun i u hu => (hX E.P μ φ xs hl hr i u hu).2)
            refine (hM ps p hp w μ1 xs r2.ro r2.glob (by omega) (fun i q x hq hx => ?_)).mono ?_
            · have := r3 i q hq
              have hlt : i < xs.size := (Array.getElem?_eq_some_iff.1 hx).1
              have e : xs.getD i undef = x := by rw [Array.getElem?_eq_getElem hlt] at hx; simp only [Option.some.injEq] at hx; simp [Array.getD, hlt, hx]
              rw [← e]; exact this
            · rintro e w' ⟨y, rfl, hb, hy⟩
              exact ⟨y, roFresh μ1 w w', φ, rfl, r2.called hb, hF.lives (fun b o h => roFresh_mono r2 w' b o (r1 b o h)) q0, v4 E.P _ φ y hy, fun id hid => by rw [v3] at hid; cases hid⟩
        · cases h
    · cases h
  · rename_i hctx
    split at h
    · rename_i M hown
      obtain ⟨hfn, hM⟩ := hE.own g M hown
      split at h
      · rename_i fn hg
        split at h
        · rename_i t ht
          split at h
          · rename_i e hu
            split at h
            · -- scalar elements: the arguments are only read
              rename_i hsc
              obtain ⟨hsc, hone⟩ := hsc
              split at h
              · rename_i ps hps
                obtain ⟨p, hp, h⟩ := Option.bind_eq_some_iff.1 h
                obtain ⟨es, hes, h⟩ := Option.bind_eq_some_iff.1 h
                obtain ⟨f', m', n1, n2, n3, n4, n5⟩ := fresh_ok h
                refine .inl ⟨_, f', m', _, n2, fun hd => ?_, fun hq => absurd (hq (true, site) (by simp)) (by simp), hfn, fun w0 μ φ ρ w xs hR hF hl hr hlv => ?_⟩
                · obtain ⟨d1, d2, d3⟩ := n4 hd
                  subst hd
                  refine ⟨d2, some (site, _), d3, by simp, fun f2 m2 hm2 R' k' => ?_⟩
                  have hag : frzs (frz m2 frzDepth) args = frzs (frz m frzDepth) args := frzs_congr fun v hv => frz_agree _ fun id hid => hm2 (false, id) (by
                    simp only [List.mem_append, List.mem_map]; exact .inr ⟨id, mem_readsL.2 ⟨v, hv, hid⟩, rfl⟩)
                  have hrd : readsL (readsV m2 frzDepth) args = readsL (readsV m frzDepth) args := readsL_congr fun v hv => reads_agree _ fun id hid => hm2 (false, id) (by
                    simp only [List.mem_append, List.mem_map]; exact .inr ⟨id, mem_readsL.2 ⟨v, hv, hid⟩, rfl⟩)
                  simp only [xfunc, hctx, hown, hg, ht, hu]
                  rw [if_pos ⟨hsc, hone⟩]
                  simp only [hag, hps, hp, Option.bind_some, hes, hrd]
                  have hs2 : m2 site = none := by rw [hm2 (true, site) (by simp)]; exact d1
                  simp only [fresh, hs2]; rfl
                · obtain ⟨p1, p2⟩ := frzs_ok hps
                  refine (hM fn t e hg ht hu ps p hp w (heapOf w) xs (fun _ _ h => h) (fun g cs hg => (hR.glob g cs hg).mono hR.heap_ro) (by omega) (fun i q x hq hx => ?_)).mono ?_
                  · obtain ⟨u, hu', hf⟩ := p2 i q hq
                    exact frz_full hR hR.heap_ro (fun _ _ _ _ _ => rfl) _ hf (hr i u x hu' hx)
                  rintro en w' ⟨y, ph, es', rfl, hb, rfl, hgo, hA, hy⟩
                  have hes' : es' = es := by
                    simp only [asSl, if_true, Option.some.injEq] at hes; exact hes
                  subst hes'
                  rw [hone] at hA
                  have hA2 : RepArr E.P (roBut (roFresh μ w w') ph.g) (fun _ => ph) w' 0 1 e (es'.map scalP) := hA.scal
                  have hR2 := hR.calledBut hb hgo
                  have hF2 : FrOk E.P (roBut (roFresh μ w w') ph.g) φ m f ρ := hF.lives (fun b o h => roBut_mono hR w' hgo b o h) (.refl _)
                  have hP : PutOk E.P w0 (roBut (roFresh μ w w') ph.g) φ m w' w' site (.arr (csz E.P e) e (es'.map scalP)) ph := by
                    refine ⟨Bel.refl _ _, hR2.ro, fun _ _ _ _ _ => rfl, fun g hg => ⟨?_, ?_, ?_⟩, fun φ' hp _ => by rw [hone]; exact hA2.move hp (fun _ _ h => h), by simp [Blk.names], fun st h => by cases h⟩
                    · have := hgo g hg; have := hR.below.size; exact Nat.le_trans this (hgo g hg)
                    · simp [roBut, hg]
                    · intro id b' hb' hg'
                      have h1 := (hR.blk id b' hb').glt hg'
                      have h2 := hgo g hg
                      omega
                  obtain ⟨φ', a1, a2, a3⟩ := n5 E.P E.glob w0 _ φ w' w' ρ ph hR2 hF2 hP
                  refine ⟨y, _, φ', rfl, a2, a3, ?_, fun id hid => ?_⟩
                  · cases hy with
                    | osN h => exact .osN (by rw [a1]; exact h)
                    | @os _ g h =>
                      have := RepV.os (P := E.P) (μ := roBut (roFresh μ w w') ph.g) (φ := φ') (id := site) (g := g) (by rw [a1]; exact h)
                      rw [a1] at this; exact this
                  · have hid := Nat.eq_of_beq_eq_true hid; subst hid; simp [n3]
              · cases h
            rename_i hsc
            split at h
            · rename_i ps m1 hps
              obtain ⟨p, hp, h⟩ := Option.bind_eq_some_iff.1 h
              obtain ⟨es, hes, h⟩ := Option.bind_eq_some_iff.1 h
              obtain ⟨f', m', n1, n2, n3, n4, n5⟩ := fresh_ok h
              have fin : ∀ (w0 : Base) (μ μ1 : Ro) (φ : Nat → Phys) (ρ : Nat → Value) (w : World) (xs : Array Value), (∀ b o, μ b = some o → μ1 b = some o) → Lives m (if draw then m else m1) → RelM E.P E.glob w0 μ1 φ (if draw then m else m1) w → FrOk E.P μ φ m f ρ → ps.length = xs.size → (∀ (i : Nat) p x, ps[i]? = some p → xs[i]? = some x → RepPV E.P μ1 p x) →
                  Calls E.P g xs w fun e w' => ∃ y μ' φ', e = .returned y ∧ RelM E.P E.glob w0 μ' φ' m' w' ∧ FrOk E.P μ' φ' m' f' ρ ∧ RepV E.P μ' φ' (.os site) y ∧ ∀ id, (V.os site).has id = true → (m' id).isSome = true := by
                intro w0 μ μ1 φ ρ w xs hle hlv hR hF hl hr
                refine (hM fn t e hg ht hu ps p hp w μ1 xs hR.ro hR.glob hl hr).mono ?_
                rintro en w' ⟨y, ph, es', rfl, hb, rfl, hgo, hA, hy⟩
                have hes' : es' = es := by
                  simp only [asSl, if_true, Option.some.injEq] at hes; exact hes
                subst hes'
                have hR2 := hR.calledBut hb hgo
                have hF2 : FrOk E.P (roBut (roFresh μ1 w w') ph.g) φ (if draw then m else m1) f ρ := hF.lives (fun b o h => roBut_mono hR w' hgo b o (hle b o h)) hlv
                have hP : PutOk E.P w0 (roBut (roFresh μ1 w w') ph.g) φ (if draw then m else m1) w' w' site (.arr (csz E.P e) e es') ph := by
                  refine ⟨Bel.refl _ _, hR2.ro, fun _ _ _ _ _ => rfl, fun g hg => ⟨?_, ?_, ?_⟩, fun φ' hp _ => hA.move hp (fun _ _ h => h), by simp [Blk.names], fun st h => by cases h⟩
                  · have := hgo g hg; have := hR.below.size; exact Nat.le_trans this (hgo g hg)
                  · simp [roBut, hg]
                  · intro id b' hb' hg'
                    have h1 := (hR.blk id b' hb').glt hg'
                    have h2 := hgo g hg
                    omega
                obtain ⟨φ', a1, a2, a3⟩ := n5 E.P E.glob w0 _ φ w' w' ρ ph hR2 hF2 hP
                refine ⟨y, _, φ', rfl, a2, a3, ?_, fun id hid => ?_⟩
                · cases hy with
                  | osN h => exact .osN (by rw [a1]; exact h)
                  | @os _ g h =>
                    have := RepV.os (P := E.P) (μ := roBut (roFresh μ1 w w') ph.g) (φ := φ') (id := site) (g := g) (by rw [a1]; exact h)
                    rw [a1] at this; exact this
                · have hid := Nat.eq_of_beq_eq_true hid; subst hid; simp [n3]
              cases draw with
              | true =>
                simp only [if_true] at hps n2 fin n4
                obtain ⟨q1, q2⟩ := freezeArgs_pure hps
                obtain ⟨d1, d2, d3⟩ := n4 trivial
                refine .inl ⟨_, f', m', _, n2, fun _ => ⟨d2, some (site, _), d3, by simp, fun f2 m2 hm2 R' k' => ?_⟩, fun hq => absurd (hq (true, site) (by simp)) (by simp), hfn, fun w0 μ φ ρ w xs hR hF hl hr hlv => ?_⟩
                · simp only [xfunc, hctx, hown, hg, ht, hu]
                  rw [if_neg hsc]
                  simp only [if_true, hps, hp, Option.bind_some, hes]
                  have hs2 : m2 site = none := by rw [hm2 (true, site) (by simp)]; exact d1
                  simp only [fresh, hs2]; rfl
                · refine fin w0 μ μ φ ρ w xs (fun _ _ h => h) (.refl _) hR hF (by omega) fun i q x hq hx => ?_
                  have := q2 E.P μ φ (fun i => xs.getD i undef) (fun i u hu => (hX E.P μ φ xs hl hr i u hu).2) i q hq
                  have hlt : i < xs.size := (Array.getElem?_eq_some_iff.1 hx).1
                  have e : xs.getD i undef = x := by rw [Array.getElem?_eq_getElem hlt] at hx; simp only [Option.some.injEq] at hx; simp [Array.getD, hlt, hx]
                  rw [← e]; exact this
              | false =>
                simp only [Bool.false_eq_true, if_false] at hps n2 fin n4
                obtain ⟨q0, q1, q2⟩ := freezeArgs_ok hps
                refine .inl ⟨_, f', m', _, n2, fun hd => by (cases hd), fun hq => absurd (hq (true, site) (by simp)) (by simp), hfn, fun w0 μ φ ρ w xs hR hF hl hr hlv => ?_⟩
                obtain ⟨μ1, r1, r2, r3⟩ := q2 E.P E.glob w0 μ φ w (fun i => xs.getD i undef) hR (fun i u hu => (hX E.P μ φ xs hl hr i u hu).2)
                refine fin w0 μ μ1 φ ρ w xs r1 q0 r2 hF (by omega) fun i q x hq hx => ?_
                have := r3 i q hq
                have hlt : i < xs.size := (Array.getElem?_eq_some_iff.1 hx).1
                have e : xs.getD i undef = x := by rw [Array.getElem?_eq_getElem hlt] at hx; simp only [Option.some.injEq] at hx; simp [Array.getD, hlt, hx]
                rw [← e]; exact this
            · cases h
          · cases h
        · cases h
      · cases h
    · split at h
      · cases h
      · rename_i hd
        exact .inr ⟨by simpa using hd, hE.inl _ _ _ _ _ _ _ _ h⟩
end
end Go.Ab
