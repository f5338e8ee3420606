/- A call that sorts a slice of the caller's own, in place, by a comparison of which a contract is known. -/
import Derived.Test.YtklnckbjikhkgaaAbSeat
namespace Go.Ab

def ints (ns : List Int) : List PV := ns.map (.int .i64)
/-- what is asked of the comparison, and what the slice holds behind the call -/
structure SortFits (cmpAt : List PV → PV → PV → Option PV) (ns ns' : List Int) (cf : Int → Int → Int) : Prop where
  perm : ns'.Perm ns
  reads : ∀ c : List Int, c.length = ns.length → (∀ x ∈ c, x ∈ ns) → ∀ a ∈ ns, ∀ b ∈ ns, cmpAt (ints c) (.int .i64 a) (.int .i64 b) = some (.int .i64 (cf a b))
  irrefl : ∀ a ∈ ns, ¬ cf a a < 0
  trans : ∀ a ∈ ns, ∀ b ∈ ns, ∀ c ∈ ns, cf a b < 0 → cf b c < 0 → cf a c < 0
  total : ∀ a ∈ ns, ∀ b ∈ ns, ¬ cf a b < 0 → ¬ cf b a < 0 → a = b
  sorted : ns'.Pairwise fun a b => ¬ cf b a < 0

theorem SortFits.unique {cmpAt : List PV → PV → PV → Option PV} {ns n1 n2 : List Int} {c1 c2 : Int → Int → Int} (h1 : SortFits cmpAt ns n1 c1) (h2 : SortFits cmpAt ns n2 c2) : n1 = n2 := by
  have hc : ∀ a ∈ ns, ∀ b ∈ ns, c1 a b = c2 a b := fun a ha b hb => by
    have e1 := h1.reads ns rfl (fun _ h => h) a ha b hb
    have e2 := h2.reads ns rfl (fun _ h => h) a ha b hb
    rw [e1] at e2
    simpa using e2
  refine List.Perm.eq_of_pairwise (le := fun a b => ¬ c1 b a < 0) (fun a b ha hb h h' => ?_) h1.sorted ?_ (h1.perm.trans h2.perm.symm)
  · exact h1.total a (h1.perm.mem_iff.1 ha) b (h2.perm.mem_iff.1 hb) h' h
  · refine h2.sorted.imp_of_mem fun {a b} ha hb h => ?_
    rw [hc b (h2.perm.mem_iff.1 hb) a (h2.perm.mem_iff.1 ha)]; exact h

/-- the sorted elements, if the comparison is as asked -/
noncomputable def sortS (cmpAt : List PV → PV → PV → Option PV) (es : List PV) : Option (List PV) :=
  @dite _ (∃ ns ns', es = ints ns ∧ ∃ cf, SortFits cmpAt ns ns' cf) (Classical.propDecidable _) (fun h => some (ints (Classical.choose (Classical.choose_spec h)))) fun _ => none
theorem sortS_ok {cmpAt : List PV → PV → PV → Option PV} {es es' : List PV} (h : sortS cmpAt es = some es') : ∃ ns ns' cf, es = ints ns ∧ es' = ints ns' ∧ SortFits cmpAt ns ns' cf := by
  unfold sortS at h
  split at h
  · rename_i hh
    obtain ⟨e, cf, hf⟩ := Classical.choose_spec (Classical.choose_spec hh)
    simp only [Option.some.injEq] at h
    exact ⟨_, _, cf, e, h.symm, hf⟩
  · cases h
theorem ints_inj : ∀ {a b : List Int}, ints a = ints b → a = b
  | [], [], _ => rfl
  | [], _ :: _, h => by simp [ints] at h
  | _ :: _, [], h => by simp [ints] at h
  | x :: a, y :: b, h => by
    simp only [ints, List.map_cons, List.cons.injEq, PV.int.injEq, true_and] at h
    rw [h.1, ints_inj h.2]
theorem sortS_eq {cmpAt : List PV → PV → PV → Option PV} {ns ns' : List Int} {cf : Int → Int → Int} (h : SortFits cmpAt ns ns' cf) : sortS cmpAt (ints ns) = some (ints ns') := by
  have hh : ∃ n n', ints ns = ints n ∧ ∃ cf, SortFits cmpAt n n' cf := ⟨ns, ns', rfl, cf, h⟩
  cases hs : sortS cmpAt (ints ns) with
  | none =>
    exfalso
    unfold sortS at hs
    rw [dif_pos hh] at hs
    cases hs
  | some es' =>
    obtain ⟨n, n', c, e1, e2, hf⟩ := sortS_ok hs
    have e1 := ints_inj e1
    subst e1; subst e2
    rw [hf.unique h]

/-- the call -/
noncomputable def sortHook (clo : FuncId → Option (List PV → Option PV)) : (R : Type) → List V → Fr → Mem → (V → Fr → Mem → Option R) → Option R :=
  fun _ args f m k => match args with
  | [.os id, .fn g caps] => match m id with
    | some (.arr sz et es) => match clo g with
      | some M => if sz = 1 ∧ es.length ≤ roomBound then (sortS (fun c a b => (frzs (frz (memSet m id (.arr 1 et c)) frzDepth) caps).bind fun ps => M (a :: b :: ps)) es).bind fun es' => k (.tup []) f (memSet m id (.arr 1 et es')) else none
      | none => none
    | _ => none
  | _ => none
end Go.Ab
