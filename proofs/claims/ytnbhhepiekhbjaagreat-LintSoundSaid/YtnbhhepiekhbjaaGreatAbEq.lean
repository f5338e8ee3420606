/- '==' on values that are compared cell by cell; keys of maps. -/
import Derived.Test.YtnbhhepiekhbjaaGreatAbFrz
import Derived.Laws.StructEq
import Derived.ChangeKeysEq
set_option linter.unusedVariables false
namespace Go.Ab
open Go.RowKit (Below)

section
variable {P : Program} {w : World}
def valOf : PV → Value
  | .int k n => .int k n
  | .bool b => .bool b
  | .str s => .string ⟨s.toArray⟩
  | _ => undef
def mkVal (P : Program) (t : TypeId) (ps : List PV) : Value := if isAggT P t then .agg (ps.map valOf).toArray else valOf (ps.headD .bad)

theorem valOf_rep {μ : Ro} {k : Kd} {p : PV} {y : Value} (h : kdIs k p = true) (hy : RepPV P μ p y) : y = valOf p := by
  cases k <;> cases p <;> simp [kdIs] at h <;> cases hy <;> rfl
theorem chk_len : ∀ {ks : List Kd} {ps : List PV}, chk ks ps = true → ps.length = ks.length
  | [], [], _ => rfl
  | [], _ :: _, h => by simp [chk] at h
  | _ :: _, [], h => by simp [chk] at h
  | k :: ks, p :: ps, h => by simp [chk] at h; simp [chk_len h.2]
theorem chk_get : ∀ {ks : List Kd} {ps : List PV}, chk ks ps = true → ∀ (i : Nat) p, ps[i]? = some p → ∃ k, ks[i]? = some k ∧ kdIs k p = true
  | [], [], _, i, p, hi => by simp at hi
  | [], _ :: _, h, _, _, _ => by simp [chk] at h
  | _ :: _, [], h, _, _, _ => by simp [chk] at h
  | k :: ks, q :: ps, h, i, p, hi => by
    simp [chk] at h
    cases i with
    | zero => simp at hi; subst hi; exact ⟨k, by simp, h.1⟩
    | succ i => simp at hi; simpa using chk_get h.2 i p hi
theorem chk_append : ∀ (a b : List Kd) (ps : List PV), chk (a ++ b) ps = true ↔ chk a (ps.take a.length) = true ∧ chk b (ps.drop a.length) = true
  | [], b, ps => by simp [chk]
  | k :: a, b, [] => by simp [chk]
  | k :: a, b, p :: ps => by simp [chk, chk_append a b ps, Bool.and_eq_true, and_assoc]
theorem peqL_append : ∀ (n : Nat) (ps qs : List PV), n ≤ ps.length → n ≤ qs.length → peqL ps qs = (peqL (ps.take n) (qs.take n) && peqL (ps.drop n) (qs.drop n))
  | 0, ps, qs, _, _ => by simp [peqL]
  | n + 1, [], _, h, _ => by simp at h
  | n + 1, _ :: _, [], _, h => by simp at h
  | n + 1, p :: ps, q :: qs, h1, h2 => by
    simp only [List.length_cons, Nat.add_le_add_iff_right] at h1 h2
    simp only [peqL, List.take_succ_cons, List.drop_succ_cons, peqL_append n ps qs h1 h2, Bool.and_assoc]

theorem vals_of_cells {μ : Ro} {ks : List Kd} {ps : List PV} {xs : Array Value} (hk : chk ks ps = true) (hl : xs.size = ps.length) (hv : ∀ (i : Nat) p y, ps[i]? = some p → xs[i]? = some y → RepPV P μ p y) : xs = (ps.map valOf).toArray := by
  apply Array.ext'
  apply List.ext_getElem?
  intro i
  by_cases hi : i < ps.length
  · have h1 : ps[i]? = some ps[i] := List.getElem?_eq_getElem hi
    have h2 : xs[i]? = some xs[i] := Array.getElem?_eq_getElem (by omega)
    obtain ⟨k, _, hk⟩ := chk_get hk i _ h1
    have := valOf_rep hk (hv i _ _ h1 h2)
    simp only [Array.getElem?_toList, h2, List.getElem?_map, h1, Option.map_some, this]
  · simp [hi, hl]

theorem kdsRep_length (a : List Kd) : ∀ n, (kdsRep a n).length = n * a.length
  | 0 => by simp [kdsRep]
  | n + 1 => by simp [kdsRep, kdsRep_length a n, Nat.add_mul]; omega
theorem chk_one {k : Kd} {ps : List PV} (h : chk [k] ps = true) : ∃ p, ps = [p] ∧ kdIs k p = true := by
  cases ps with
  | nil => simp [chk] at h
  | cons p r => cases r with
    | nil => exact ⟨p, rfl, by simpa [chk] using h⟩
    | cons q r => simp [chk] at h
theorem kds_agg {d : Nat} {t : TypeId} {ks : List Kd} (h : kds P d t = some ks) : (isAggT P t = true → ks.length = csz P t) ∧ (isAggT P t = false → ks.length = 1) ∧ ∃ de, P.underlying t = some de := by
  cases d with
  | zero => simp [kds] at h
  | succ d =>
    unfold kds at h
    split at h
    · rename_i q hu; simp at h; subst h; exact ⟨by simp [isAggT, hu], by simp, _, hu⟩
    · rename_i hu; simp at h; subst h; exact ⟨by simp [isAggT, hu], by simp, _, hu⟩
    · rename_i hu; simp at h; subst h; exact ⟨by simp [isAggT, hu], by simp, _, hu⟩
    · rename_i fs hu
      split at h
      · cases h
      · obtain ⟨a, ha, h⟩ := Option.bind_eq_some_iff.1 h
        split at h
        · rename_i hl; simp at h; subst h; exact ⟨fun _ => hl, by simp [isAggT, hu], _, hu⟩
        · cases h
    · rename_i n e hu
      obtain ⟨a, ha, h⟩ := Option.bind_eq_some_iff.1 h
      split at h
      · rename_i hl
        simp at h; subst h
        refine ⟨fun _ => ?_, by simp [isAggT, hu], _, hu⟩
        rw [← hl.2, kdsRep_length]
      · cases h
    · cases h

theorem run_part_val {d : Nat} {t : TypeId} {ks : List Kd} {ps : List PV} {off : Nat} (h : kds P d t = some ks) (hl : off + ks.length ≤ ps.length) :
    (part t (ps.map valOf).toArray off).run P w = .ok (mkVal P t ((ps.drop off).take ks.length)) w := by
  obtain ⟨h1, h2, de, hu⟩ := kds_agg h
  cases ha : isAggT P t with
  | true =>
    rw [run_part_agg ha]
    congr 1
    simp only [mkVal, ha, if_true]
    congr 1
    rw [← h1 ha]
    simp [List.map_drop, List.map_take, List.extract_eq_take_drop]
  | false =>
    have hk := h2 ha
    rw [hk] at hl ⊢
    have hlt : off < ps.length := by omega
    rw [run_part_one hu ha (y := valOf ps[off]) (by simp [hlt])]
    congr 1
    simp only [mkVal, ha, Bool.false_eq_true, if_false]
    rw [List.drop_eq_getElem_cons hlt]
    rfl
theorem run_equalIn_kds : ∀ (d : Nat) (t : TypeId) (ks : List Kd), kds P d t = some ks → ∀ (D : Nat) (w : World) (ps qs : List PV), chk ks ps = true → chk ks qs = true →
    (Op.equalIn (D + d) t (mkVal P t ps) (mkVal P t qs)).run P w = .ok (peqL ps qs) w
  | 0, t, ks, h, _, _, _, _, _, _ => by simp [kds] at h
  | d + 1, t, ks, h, D, w, ps, qs, hp, hq => by
    have ih := run_equalIn_kds d
    have h0 := h
    unfold kds at h
    split at h
    · rename_i q hu
      simp only [Option.some.injEq] at h; subst h
      have ha : isAggT P t = false := by simp [isAggT, hu]
      obtain ⟨p, rfl, hkp⟩ := chk_one hp
      obtain ⟨q', rfl, hkq⟩ := chk_one hq
      clear hp hq
      cases p <;> simp [kdIs] at hkp
      cases q' <;> simp [kdIs] at hkq
      subst hkp; subst hkq
      simp [mkVal, ha, valOf, peqL, peq, ← Nat.add_assoc, Op.equalIn, run_underlying hu]
    · rename_i hu
      simp only [Option.some.injEq] at h; subst h
      have ha : isAggT P t = false := by simp [isAggT, hu]
      obtain ⟨p, rfl, hkp⟩ := chk_one hp
      obtain ⟨q', rfl, hkq⟩ := chk_one hq
      clear hp hq
      cases p <;> simp [kdIs] at hkp
      cases q' <;> simp [kdIs] at hkq
      simp [mkVal, ha, valOf, peqL, peq, ← Nat.add_assoc, Op.equalIn, run_underlying hu]
    · rename_i hu
      simp only [Option.some.injEq] at h; subst h
      have ha : isAggT P t = false := by simp [isAggT, hu]
      obtain ⟨p, rfl, hkp⟩ := chk_one hp
      obtain ⟨q', rfl, hkq⟩ := chk_one hq
      clear hp hq
      cases p <;> simp [kdIs] at hkp
      cases q' <;> simp [kdIs] at hkq
      simp only [mkVal, ha, valOf, peqL, peq, ← Nat.add_assoc, Bool.false_eq_true, if_false, List.headD_cons, Bool.and_true]
      rw [run_equalIn_string w _ _ _ _ hu, ByteArray.toList_eq, ByteArray.toList_eq]
    · rename_i fs hu
      split at h
      · cases h
      · rename_i hst
        obtain ⟨a, ha, h⟩ := Option.bind_eq_some_iff.1 h
        split at h
        · rename_i hlen
          simp only [Option.some.injEq] at h; subst h
          have hag : isAggT P t = true := by simp [isAggT, hu]
          have hfo : P.fieldsOf t = fs := by simp [Program.fieldsOf, hu]
          simp only [mkVal, hag, if_true, ← Nat.add_assoc]
          rw [run_equalIn_struct w (D + d) t _ _ (by rw [hfo]; exact hu) (by simpa using hst), hfo]
          have key : ∀ (L : List Field) (off : Nat) (b : List Kd) (w : World), kdsField (kds P d) L off = some b → off ≤ ps.length → off ≤ qs.length → chk b (ps.drop off) = true → chk b (qs.drop off) = true →
              (Op.eqFields (D + d) (ps.map valOf).toArray (qs.map valOf).toArray L).run P w = .ok (peqL (ps.drop off) (qs.drop off)) w := by
            intro L
            induction L with
            | nil =>
              intro off b w hb o1 o2 h1 h2
              simp only [kdsField, Option.some.injEq] at hb; subst hb
              have e1 : ps.drop off = [] := by cases hh : ps.drop off with | nil => rfl | cons x r => rw [hh] at h1; simp [chk] at h1
              have e2 : qs.drop off = [] := by cases hh : qs.drop off with | nil => rfl | cons x r => rw [hh] at h2; simp [chk] at h2
              simp [Op.eqFields, e1, e2, peqL]
            | cons f L ihL =>
              intro off b w hb o1 o2 h1 h2
              simp only [kdsField] at hb
              split at hb
              · rename_i hf
                obtain ⟨c, hc, hb⟩ := Option.bind_eq_some_iff.1 hb
                obtain ⟨b', hb', hb⟩ := Option.bind_eq_some_iff.1 hb
                simp only [Option.some.injEq] at hb; subst hb
                rw [chk_append] at h1 h2
                have l1 := chk_len h1.1
                have l2 := chk_len h2.1
                simp only [List.length_take, List.length_drop] at l1 l2
                have p1 := run_part_val (w := w) (ps := ps) (off := off) hc (by omega)
                have p2 := run_part_val (w := w) (ps := qs) (off := off) hc (by omega)
                have p3 := ih f.type c hc D w _ _ h1.1 h2.1
                have p4 := ihL (off + c.length) b' w hb' (by omega) (by omega) (by rw [← List.drop_drop]; exact h1.2) (by rw [← List.drop_drop]; exact h2.2)
                simp only [Op.eqFields, hf.2, ne_eq, not_false_eq_true, if_true, Sem.run_bind, hf.1, p1, p2, p3, Result.andThen_ok]
                rw [peqL_append c.length (ps.drop off) (qs.drop off) (by simp; omega) (by simp; omega), List.drop_drop, List.drop_drop]
                cases hr : peqL ((ps.drop off).take c.length) ((qs.drop off).take c.length) with
                | false => simp
                | true => simpa using p4
              · cases hb
          simpa using key fs.toList 0 a w ha (by simp) (by simp) (by simpa using hp) (by simpa using hq)
        · cases h
    · rename_i n e hu
      obtain ⟨a, ha, h⟩ := Option.bind_eq_some_iff.1 h
      split at h
      · rename_i hlen
        simp only [Option.some.injEq] at h; subst h
        have hag : isAggT P t = true := by simp [isAggT, hu]
        obtain ⟨_, _, de, hde⟩ := kds_agg ha
        obtain ⟨i, hi⟩ : ∃ i, P.info? e = some i := by
          unfold Program.underlying at hde
          cases hq : P.info? e with
          | none => simp [hq] at hde
          | some i => exact ⟨i, rfl⟩
        have hsz : P.cellsOf e = a.length := hlen.1.symm
        simp only [mkVal, hag, if_true, ← Nat.add_assoc]
        rw [run_equalIn_array w (D + d) _ _ hu hi, hsz]
        have key : ∀ (k j : Nat) (w : World), j + k = n → j * a.length ≤ ps.length → j * a.length ≤ qs.length → chk (kdsRep a k) (ps.drop (j * a.length)) = true → chk (kdsRep a k) (qs.drop (j * a.length)) = true →
            (Op.eqItems (D + d) e a.length (ps.map valOf).toArray (qs.map valOf).toArray (List.range' j k)).run P w = .ok (peqL (ps.drop (j * a.length)) (qs.drop (j * a.length))) w := by
          intro k
          induction k with
          | zero =>
            intro j w _ _ _ h1 h2
            simp only [kdsRep] at h1 h2
            have e1 : ps.drop (j * a.length) = [] := by cases hh : ps.drop (j * a.length) with | nil => rfl | cons x r => rw [hh] at h1; simp [chk] at h1
            have e2 : qs.drop (j * a.length) = [] := by cases hh : qs.drop (j * a.length) with | nil => rfl | cons x r => rw [hh] at h2; simp [chk] at h2
            simp [Op.eqItems, e1, e2, peqL]
          | succ k ihk =>
            intro j w hj o1 o2 h1 h2
            simp only [kdsRep] at h1 h2
            rw [chk_append] at h1 h2
            have l1 := chk_len h1.1
            have l2 := chk_len h2.1
            simp only [List.length_take, List.length_drop] at l1 l2
            have p1 := run_part_val (w := w) (ps := ps) (off := j * a.length) ha (by omega)
            have p2 := run_part_val (w := w) (ps := qs) (off := j * a.length) ha (by omega)
            have p3 := ih e a ha D w _ _ h1.1 h2.1
            have ej : (j + 1) * a.length = j * a.length + a.length := by rw [Nat.add_mul]; omega
            have p4 := ihk (j + 1) w (by omega) (by omega) (by omega) (by rw [ej, ← List.drop_drop]; exact h1.2) (by rw [ej, ← List.drop_drop]; exact h2.2)
            rw [List.range'_succ]
            simp only [Op.eqItems, Sem.run_bind, p1, p2, p3, Result.andThen_ok]
            rw [peqL_append a.length (ps.drop (j * a.length)) (qs.drop (j * a.length)) (by simp; omega) (by simp; omega), List.drop_drop, List.drop_drop, ← ej]
            cases hr : peqL ((ps.drop (j * a.length)).take a.length) ((qs.drop (j * a.length)).take a.length) with
            | false => simp
            | true => simpa using p4
        have := key n 0 w (by omega) (by simp) (by simp) (by simpa using hp) (by simpa using hq)
        rw [List.range_eq_range']
        simpa using this
      · cases h
    · cases h
end
end Go.Ab
