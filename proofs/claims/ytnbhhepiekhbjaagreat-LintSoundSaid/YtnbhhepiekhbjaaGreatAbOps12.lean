/- The abstract operations are right, twelfth part: maps. -/
import Derived.Test.YtnbhhepiekhbjaaGreatAbOps11
import Derived.WideKeyRuns
import Derived.MapKept
set_option linter.unusedVariables false
namespace Go.Ab
open Go.RowKit (Below)

section
variable {P : Program}

theorem run_checkKey_kds : ∀ (d : Nat) (t : TypeId) (ks : List Kd), kds P d t = some ks → ∀ (D : Nat) (w : World) (em : Bool) (ps : List PV), chk ks ps = true →
    (Instr.checkKey em (D + d) t (mkVal P t ps)).run P w = .ok () w
  | 0, t, ks, h, _, _, _, _, _ => by simp [kds] at h
  | d + 1, t, ks, h, D, w, em, ps, hp => by
    have ih := run_checkKey_kds d
    unfold kds at h
    split at h
    · rename_i q hu
      simp only [Option.some.injEq] at h; subst h
      have ha : isAggT P t = false := by simp [isAggT, hu]
      obtain ⟨p, rfl, hkp⟩ := chk_one hp
      clear hp
      cases p <;> simp [kdIs] at hkp
      simp [mkVal, ha, valOf, ← Nat.add_assoc, Instr.checkKey, run_underlying hu]
    · rename_i hu
      simp only [Option.some.injEq] at h; subst h
      have ha : isAggT P t = false := by simp [isAggT, hu]
      obtain ⟨p, rfl, hkp⟩ := chk_one hp
      clear hp
      cases p <;> simp [kdIs] at hkp
      simp [mkVal, ha, valOf, ← Nat.add_assoc, Instr.checkKey, run_underlying hu]
    · rename_i hu
      simp only [Option.some.injEq] at h; subst h
      have ha : isAggT P t = false := by simp [isAggT, hu]
      obtain ⟨p, rfl, hkp⟩ := chk_one hp
      clear hp
      cases p <;> simp [kdIs] at hkp
      simp [mkVal, ha, valOf, ← Nat.add_assoc, Instr.checkKey, run_underlying hu]
    · rename_i fs hu
      split at h
      · cases h
      · obtain ⟨a, ha, h⟩ := Option.bind_eq_some_iff.1 h
        split at h
        · rename_i hlen
          simp only [Option.some.injEq] at h; subst h
          have hag : isAggT P t = true := by simp [isAggT, hu]
          simp only [mkVal, hag, if_true, ← Nat.add_assoc]
          rw [Instr.checkKey]
          simp only [Sem.run_bind, run_underlying hu, Result.andThen_ok]
          rw [← Array.forIn_toList]
          have key : ∀ (L : List Field) (off : Nat) (b : List Kd), kdsField (kds P d) L off = some b → off ≤ ps.length → chk b (ps.drop off) = true →
              (forIn L PUnit.unit fun f (_ : PUnit) => (do
                if f.name ≠ "_" then Instr.checkKey em (D + d) f.type (← part f.type (ps.map valOf).toArray f.offset)
                pure (ForInStep.yield PUnit.unit) : Sem (ForInStep PUnit))).run P w = .ok PUnit.unit w := by
            intro L
            induction L with
            | nil => intro off b _ _ _; simp
            | cons f L ihL =>
              intro off b hb o1 h1
              simp only [kdsField] at hb
              split at hb
              · rename_i hf
                obtain ⟨c, hc, hb⟩ := Option.bind_eq_some_iff.1 hb
                obtain ⟨b', hb', hb⟩ := Option.bind_eq_some_iff.1 hb
                simp only [Option.some.injEq] at hb; subst hb
                rw [chk_append] at h1
                have l1 := chk_len h1.1
                simp only [List.length_take, List.length_drop] at l1
                have p1 := run_part_val (w := w) (ps := ps) (off := off) hc (by omega)
                have p3 := ih f.type c hc D w em _ h1.1
                have p4 := ihL (off + c.length) b' hb' (by omega) (by rw [← List.drop_drop]; exact h1.2)
                simp only [List.forIn_cons, hf.2, ne_eq, not_false_eq_true, if_true, Sem.run_bind, hf.1, p1, p3, Result.andThen_ok, Sem.run_pure]
                exact p4
              · cases hb
          have := key fs.toList 0 a ha (by simp) (by simpa using hp)
          simp at this
          simp [this]
        · cases h
    · rename_i n e hu
      obtain ⟨a, ha, h⟩ := Option.bind_eq_some_iff.1 h
      split at h
      · rename_i hlen
        simp only [Option.some.injEq] at h; subst h
        have hag : isAggT P t = true := by simp [isAggT, hu]
        obtain ⟨_, _, de, hde⟩ := kds_agg ha
        have hsz : (sizeOf e).run P w = .ok a.length w := by rw [hlen.1]; exact run_sizeOf' hde
        simp only [mkVal, hag, if_true, ← Nat.add_assoc]
        rw [Instr.checkKey]
        simp only [Sem.run_bind, run_underlying hu, Result.andThen_ok]
        simp only [Std.Legacy.Range.forIn_eq_forIn_range', Std.Legacy.Range.size, Nat.sub_zero, Nat.add_one_sub_one, Nat.div_one]
        have key : ∀ (k j : Nat), j * a.length ≤ ps.length → chk (kdsRep a k) (ps.drop (j * a.length)) = true →
            (forIn (List.range' j k) PUnit.unit fun i (_ : PUnit) => (do
              Instr.checkKey em (D + d) e (← part e (ps.map valOf).toArray (i * (← sizeOf e)))
              pure (ForInStep.yield PUnit.unit) : Sem (ForInStep PUnit))).run P w = .ok PUnit.unit w := by
          intro k
          induction k with
          | zero => intro j _ _; simp
          | succ k ihk =>
            intro j o1 h1
            simp only [kdsRep] at h1
            rw [chk_append] at h1
            have l1 := chk_len h1.1
            simp only [List.length_take, List.length_drop] at l1
            have p1 := run_part_val (w := w) (ps := ps) (off := j * a.length) ha (by omega)
            have p3 := ih e a ha D w em _ h1.1
            have ej : (j + 1) * a.length = j * a.length + a.length := by rw [Nat.add_mul]; omega
            have p4 := ihk (j + 1) (by omega) (by rw [ej, ← List.drop_drop]; exact h1.2)
            rw [List.range'_succ]
            simp only [List.forIn_cons, Sem.run_bind, hsz, p1, p3, Result.andThen_ok, Sem.run_pure]
            exact p4
        have := key n 0 (by simp) (by simpa using hp)
        simp at this
        simp [this]
      · cases h
    · cases h

theorem keyOk_val {μ : Ro} {kt : TypeId} {ks : List Kd} {k : PV} {y : Value} (h : keyOk P kt ks k = true) (hy : RepPV P μ k y) : chk ks k.cells = true ∧ y = mkVal P kt k.cells := by
  simp only [keyOk, Bool.and_eq_true, beq_iff_eq] at h
  refine ⟨h.1, ?_⟩
  cases hq : k.isAgg with
  | true =>
    cases k <;> simp [PV.isAgg] at hq
    cases hy with
    | agg h1 h2 h3 =>
      have := vals_of_cells h.1 h1.symm h2
      rw [this]
      simp [mkVal, h.2, PV.isAgg, PV.cells]
  | false =>
    have hc : k.cells = [k] := by cases k <;> first | rfl | (simp [PV.isAgg] at hq)
    have h1 := h.1
    rw [hc] at h1
    cases ks with
    | nil => simp [chk] at h1
    | cons kd r =>
      simp only [chk, Bool.and_eq_true] at h1
      have := valOf_rep h1.1 hy
      simp [mkVal, h.2, hq, hc, this]
theorem peqL_eq : ∀ {ks : List Kd} {ps qs : List PV}, chk ks ps = true → chk ks qs = true → peqL ps qs = true → ps = qs
  | [], [], [], _, _, _ => rfl
  | k :: ks, p :: ps, q :: qs, h1, h2, h3 => by
    simp only [chk, Bool.and_eq_true] at h1 h2
    simp only [peqL, Bool.and_eq_true] at h3
    rw [peqL_eq h1.2 h2.2 h3.2]
    have : p = q := by
      cases k <;> cases p <;> simp [kdIs] at h1 <;> cases q <;> simp [kdIs] at h2 <;> simp [peq] at h3 <;> simp_all
    rw [this]
  | [], p :: ps, _, h, _, _ => by simp [chk] at h
  | k :: ks, [], _, h, _, _ => by simp [chk] at h
  | [], [], q :: qs, _, h, _ => by simp [chk] at h
  | k :: ks, p :: ps, [], _, h, _ => by simp [chk] at h
structure EntOk (P : Program) (μ : Ro) (kt : TypeId) (ks : List Kd) (l : List (PV × PV)) (es : List MapEntry) : Prop where
  len : es.length = l.length
  key : ∀ (i : Nat) k v, l[i]? = some (k, v) → keyOk P kt ks k = true
  rep : ∀ (i : Nat) k v e, l[i]? = some (k, v) → es[i]? = some e → RepPV P μ k e.key ∧ RepPV P μ v e.val
theorem EntOk.tail {μ : Ro} {kt : TypeId} {ks : List Kd} {x : PV × PV} {l : List (PV × PV)} {e : MapEntry} {es : List MapEntry} (h : EntOk P μ kt ks (x :: l) (e :: es)) : EntOk P μ kt ks l es :=
  ⟨by simpa using h.len, fun i k v hi => h.key (i + 1) k v (by simpa using hi), fun i k v e hi he => h.rep (i + 1) k v e (by simpa using hi) (by simpa using he)⟩
inductive Found (k v : PV) (z : PV) (l : List (PV × PV)) (es : List MapEntry) (i : Nat) : Option (Nat × Value) → Prop
  | none : mhas k l = false → mlook k z l = z → mput k v l = l ++ [(k, v)] → Found k v z l es i none
  | some {j : Nat} {a u : PV} {e : MapEntry} : l[j]? = some (a, u) → es[j]? = some e → peqL k.cells a.cells = true → mhas k l = true → mlook k z l = u → mput k v l = l.set j (k, v) → Found k v z l es i (some (i + j, e.val))
theorem Found.cons {k v z : PV} {x : PV × PV} {l : List (PV × PV)} {e : MapEntry} {es : List MapEntry} {i : Nat} {r : Option (Nat × Value)} (hx : peqL k.cells x.1.cells = false) (h : Found k v z l es (i + 1) r) : Found k v z (x :: l) (e :: es) i r := by
  obtain ⟨a, u⟩ := x
  cases h with
  | none h1 h2 h3 => exact .none (by simpa [mhas, hx] using h1) (by simpa [mlook, hx] using h2) (by simpa [mput, hx] using h3)
  | @some j a' u' e' h1 h2 h3 h4 h5 h6 =>
    have := Found.some (k := k) (v := v) (z := z) (l := (a, u) :: l) (es := e :: es) (i := i) (j := j + 1) (a := a') (u := u') (e := e') (by simpa using h1) (by simpa using h2) h3 (by simpa [mhas, hx] using h4) (by simpa [mlook, hx] using h5) (by simpa [mput, hx] using h6)
    rw [show i + 1 + j = i + (j + 1) by omega]; exact this
theorem Found.here {k v z : PV} {a u : PV} {l : List (PV × PV)} {e : MapEntry} {es : List MapEntry} {i : Nat} (hx : peqL k.cells a.cells = true) : Found k v z ((a, u) :: l) (e :: es) i (Option.some (i, e.val)) := by
  have := Found.some (k := k) (v := v) (z := z) (l := (a, u) :: l) (es := e :: es) (i := i) (j := 0) (a := a) (u := u) (e := e) (by simp) (by simp) hx (by simp [mhas, hx]) (by simp [mlook, hx]) (by simp [mput, hx])
  simpa using this

theorem run_findAsking_kds {μ : Ro} {kt : TypeId} {ks : List Kd} {k v z : PV} (hk : kds P 8 kt = some ks) (hkk : chk ks k.cells = true) (w : World) :
    ∀ (l : List (PV × PV)) (es : List MapEntry) (i : Nat), EntOk P μ kt ks l es → ∃ r, (Instr.findAsking kt (mkVal P kt k.cells) es i).run P w = .ok r w ∧ Found k v z l es i r
  | [], es, i, h => by
    have : es = [] := List.eq_nil_of_length_eq_zero (by simpa using h.len)
    subst this
    exact ⟨none, by simp [Instr.findAsking], .none rfl rfl rfl⟩
  | (a, u) :: l, es, i, h => by
    cases es with
    | nil => have := h.len; simp at this
    | cons e es =>
      have hka := h.key 0 a u (by simp)
      obtain ⟨h1, h2⟩ := keyOk_val hka (h.rep 0 a u e (by simp) (by simp)).1
      have he : (Op.equal kt (mkVal P kt k.cells) e.key).run P w = .ok (peqL k.cells a.cells) w := by
        rw [h2]; exact run_equalIn_kds 8 kt ks hk 9992 w _ _ hkk h1
      cases hp : peqL k.cells a.cells with
      | true => exact ⟨some (i, e.val), by simp [Instr.findAsking, he, hp], .here hp⟩
      | false =>
        obtain ⟨r, r1, r2⟩ := run_findAsking_kds (v := v) (z := z) hk hkk w l es (i + 1) h.tail
        exact ⟨r, by simp [Instr.findAsking, he, hp, r1], r2.cons hp⟩

theorem findNow_kds {μ : Ro} {kt : TypeId} {d : TypeDesc} {ks : List Kd} {k v z : PV} (hu : P.underlying kt = some d) (ha : isAggT P kt = false) (hk : kds P 8 kt = some ks) (hkk : chk ks k.cells = true) :
    ∀ (l : List (PV × PV)) (es : List MapEntry) (i : Nat), EntOk P μ kt ks l es → ∃ r, Instr.findNow d (mkVal P kt k.cells) es i = some r ∧ Found k v z l es i r
  | [], es, i, h => by
    have : es = [] := List.eq_nil_of_length_eq_zero (by simpa using h.len)
    subst this
    exact ⟨none, by simp [Instr.findNow], .none rfl rfl rfl⟩
  | (a, u) :: l, es, i, h => by
    cases es with
    | nil => have := h.len; simp at this
    | cons e es =>
      have hka := h.key 0 a u (by simp)
      obtain ⟨h1, h2⟩ := keyOk_val hka (h.rep 0 a u e (by simp) (by simp)).1
      have he : Instr.sameNow d (mkVal P kt k.cells) e.key = some (peqL k.cells a.cells) := by
        rw [h2]
        have hk' := hk
        unfold kds at hk'
        rw [hu] at hk'
        cases d <;> simp at hk' <;> try (simp [isAggT, hu] at ha; done)
        all_goals
          subst hk'
          obtain ⟨p, hp1, hp2⟩ := chk_one hkk
          obtain ⟨q, hq1, hq2⟩ := chk_one h1
          rw [hp1, hq1]
          cases p <;> simp [kdIs] at hp2
          cases q <;> simp [kdIs] at hq2
          simp [mkVal, ha, valOf, Instr.sameNow, peqL, peq, hp2, hq2]
        all_goals
          (rw [Bool.eq_iff_iff, Go.MapKept.bytes_beq]; simp only [beq_iff_eq]; exact ⟨fun hh => by have := congrArg ByteArray.data hh; simpa using this, fun hh => by rw [hh]⟩)
      cases hp : peqL k.cells a.cells with
      | true => exact ⟨some (i, e.val), by simp [Instr.findNow, he, hp], .here hp⟩
      | false =>
        obtain ⟨r, r1, r2⟩ := findNow_kds (v := v) (z := z) hu ha hk hkk l es (i + 1) h.tail
        exact ⟨r, by simp [Instr.findNow, he, hp, r1], r2.cons hp⟩

theorem run_findKey_kds {μ : Ro} {kt : TypeId} {ks : List Kd} {k v z : PV} (hk : kds P 8 kt = some ks) (hkk : chk ks k.cells = true) (w : World) {l : List (PV × PV)} {es : List MapEntry} (h : EntOk P μ kt ks l es) :
    ∃ r, (Instr.findKey kt (mkVal P kt k.cells) es).run P w = .ok r w ∧ Found k v z l es 0 r := by
  obtain ⟨_, _, d, hu⟩ := kds_agg hk
  cases ha : isAggT P kt with
  | true =>
    rw [run_findKey_eq w (by unfold isAggT at ha; rw [hu] at ha ⊢; cases d <;> simp_all)]
    exact run_findAsking_kds hk hkk w l es 0 h
  | false =>
    obtain ⟨r, r1, r2⟩ := findNow_kds (v := v) (z := z) hu ha hk hkk l es 0 h
    exact ⟨r, Go.MapKept.run_findKey hu r1, r2⟩
end
end Go.Ab
