/- A call that sorts a slice of the caller's own, in place, by a comparison of which a contract is known: elements that are structs of numbers, texts and truth values. -/
import Derived.Test.YtacjfkmonjbcmaaAbSort
set_option linter.unusedVariables false
namespace Go.Ab

def scalB : PV → Bool
  | .int _ _ => true
  | .bool _ => true
  | .str _ => true
  | _ => false
def rowP (r : List PV) : PV := .agg r
def rowsP (ns : List (List PV)) : List PV := ns.map rowP
structure SortFitsK (k : Nat) (cmpAt : List PV → PV → PV → Option PV) (ns ns' : List (List PV)) (cf : List PV → List PV → Int) : Prop where
  len : ∀ a ∈ ns, a.length = k
  scal : ∀ a ∈ ns, ∀ p ∈ a, scalB p = true
  perm : ns'.Perm ns
  reads : ∀ c : List (List PV), c.length = ns.length → (∀ x ∈ c, x ∈ ns) → ∀ a ∈ ns, ∀ b ∈ ns, cmpAt (rowsP c) (rowP a) (rowP b) = some (.int .i64 (cf a b))
  irrefl : ∀ a ∈ ns, ¬ cf a a < 0
  trans : ∀ a ∈ ns, ∀ b ∈ ns, ∀ c ∈ ns, cf a b < 0 → cf b c < 0 → cf a c < 0
  total : ∀ a ∈ ns, ∀ b ∈ ns, ¬ cf a b < 0 → ¬ cf b a < 0 → a = b
  sorted : ns'.Pairwise fun a b => ¬ cf b a < 0

theorem SortFitsK.unique {k : Nat} {cmpAt : List PV → PV → PV → Option PV} {ns n1 n2 : List (List PV)} {c1 c2 : List PV → List PV → Int} (h1 : SortFitsK k cmpAt ns n1 c1) (h2 : SortFitsK k cmpAt ns n2 c2) : n1 = n2 := by
  have hc : ∀ a ∈ ns, ∀ b ∈ ns, c1 a b = c2 a b := fun a ha b hb => by
    have e1 := h1.reads ns rfl (fun _ h => h) a ha b hb
    have e2 := h2.reads ns rfl (fun _ h => h) a ha b hb
    rw [e1] at e2
    simpa using e2
  refine List.Perm.eq_of_pairwise (le := fun a b => ¬ c1 b a < 0) (fun a b ha hb h h' => ?_) h1.sorted ?_ (h1.perm.trans h2.perm.symm)
  · exact h1.total a (h1.perm.mem_iff.1 ha) b (h2.perm.mem_iff.1 hb) h' h
  · refine h2.sorted.imp_of_mem fun {a b} ha hb h => ?_
    rw [hc b (h2.perm.mem_iff.1 hb) a (h2.perm.mem_iff.1 ha)]; exact h
noncomputable def sortSK (k : Nat) (cmpAt : List PV → PV → PV → Option PV) (es : List PV) : Option (List PV) :=
  @dite _ (∃ ns ns', es = rowsP ns ∧ ∃ cf, SortFitsK k cmpAt ns ns' cf) (Classical.propDecidable _) (fun h => some (rowsP (Classical.choose (Classical.choose_spec h)))) fun _ => none
theorem sortSK_ok {k : Nat} {cmpAt : List PV → PV → PV → Option PV} {es es' : List PV} (h : sortSK k cmpAt es = some es') : ∃ ns ns' cf, es = rowsP ns ∧ es' = rowsP ns' ∧ SortFitsK k cmpAt ns ns' cf := by
  unfold sortSK at h
  split at h
  · rename_i hh
    obtain ⟨e, cf, hf⟩ := Classical.choose_spec (Classical.choose_spec hh)
    simp only [Option.some.injEq] at h
    exact ⟨_, _, cf, e, h.symm, hf⟩
  · cases h
theorem rowsP_inj : ∀ {a b : List (List PV)}, rowsP a = rowsP b → a = b
  | [], [], _ => rfl
  | [], _ :: _, h => by simp [rowsP] at h
  | _ :: _, [], h => by simp [rowsP] at h
  | x :: a, y :: b, h => by
    simp only [rowsP, rowP, List.map_cons, List.cons.injEq, PV.agg.injEq] at h
    rw [h.1, rowsP_inj h.2]
theorem sortSK_eq {k : Nat} {cmpAt : List PV → PV → PV → Option PV} {ns ns' : List (List PV)} {cf : List PV → List PV → Int} (h : SortFitsK k cmpAt ns ns' cf) : sortSK k cmpAt (rowsP ns) = some (rowsP ns') := by
  have hh : ∃ n n', rowsP ns = rowsP n ∧ ∃ cf, SortFitsK k cmpAt n n' cf := ⟨ns, ns', rfl, cf, h⟩
  cases hs : sortSK k cmpAt (rowsP ns) with
  | none =>
    exfalso
    unfold sortSK at hs
    rw [dif_pos hh] at hs
    cases hs
  | some es' =>
    obtain ⟨n, n', c, e1, e2, hf⟩ := sortSK_ok hs
    have e1 := rowsP_inj e1
    subst e1; subst e2
    rw [hf.unique h]
noncomputable def sortHookK (kk : Nat) (clo : FuncId → Option (List PV → Option PV)) : (R : Type) → List V → Fr → Mem → (V → Fr → Mem → Option R) → Option R :=
  fun _ args f m k => match args with
  | [.os id, .fn g caps] => match m id with
    | some (.arr sz et es) => match clo g with
      | some M => if sz = kk ∧ es.length ≤ roomBound then (sortSK kk (fun c a b => (frzs (frz (memSet m id (.arr kk et c)) frzDepth) caps).bind fun ps => M (a :: b :: ps)) es).bind fun es' => k (.tup []) f (memSet m id (.arr kk et es')) else none
      | none => none
    | _ => none
  | _ => none
end Go.Ab
