/- The arguments of a law as pure values, and a law called. -/
import Derived.Test.YtklnckbjikhkgaaOk
import Derived.Test.YtklnckbjikhkgaaAbTrod
namespace Go.Ab
theorem shp_str {P : Program} {d : Nat} {t : TypeId} {ps : List PV} (ht : P.underlying t = some .string) (h : Shp P (d + 1) t ps) : ∃ s : Bytes, ps = [.str s] ∧ s.length ≤ maxLen := by
  simpa only [Shp, ht] using h
theorem strs_list {P : Program} {d : Nat} {e : TypeId} (he : P.underlying e = some .string) : ∀ (es : List PV), (∀ x ∈ es, ∃ qs, x = mkE false qs ∧ qs.length = 1 ∧ Shp P (d + 1) e qs) → ∃ l : List Bytes, es = l.map .str ∧ ∀ s ∈ l, s.length ≤ maxLen
  | [], _ => ⟨[], rfl, fun _ h => by cases h⟩
  | x :: es, h => by
    obtain ⟨l, rfl, hl⟩ := strs_list he es fun y hy => h y (List.mem_cons_of_mem _ hy)
    obtain ⟨qs, rfl, _, hq⟩ := h x (List.mem_cons_self ..)
    obtain ⟨s, rfl, hs⟩ := shp_str he hq
    exact ⟨s :: l, rfl, fun y hy => (List.mem_cons.1 hy).elim (fun e => e ▸ hs) (hl y)⟩
theorem shp_strs {P : Program} {d : Nat} {t e : TypeId} {ps : List PV} (ht : P.underlying t = some (.slice e)) (he : P.underlying e = some .string) (hc : csz P e = 1) (ha : isAggT P e = false) (h : Shp P (d + 2) t ps) : ∃ l : List Bytes, ps = [.rs 1 (l.map .str)] ∧ l.length ≤ maxLen ∧ ∀ s ∈ l, s.length ≤ maxLen := by
  have h' : ∃ es, ps = [.rs (csz P e) es] ∧ es.length ≤ maxLen ∧ ∀ x ∈ es, ∃ qs, x = mkE (isAggT P e) qs ∧ qs.length = csz P e ∧ Shp P (d + 1) e qs := by
    unfold Shp at h
    simpa only [ht] using h
  obtain ⟨es, rfl, hn, hx⟩ := h'
  rw [hc, ha] at hx
  obtain ⟨l, rfl, hl⟩ := strs_list he es hx
  exact ⟨l, by rw [hc], by simpa using hn, hl⟩
end Go.Ab
namespace Go.Proofs.Ytklnckbjikhkgaa
open Go.ChangeShapes Go.WideShapes Go.ChangeAt Go.RowKit Go.Ab

theorem own05 : ownKnob Try.prog.godebug = none := by kernel_rfl
theorem laidOut05 : laidOutB Try.prog = true := by kernel_rfl
section
variable {H : Type} {enc : TypeId × Value → H} {w : World} {spare : Nat → Bool} {held : Bool} {v : Value} {y : DataW H} {places : List MemPlace} {r : Reach} {b0 : Nat}
theorem arg_str (hok : Value.okWide Try.prog w r b0 9 v) (h : DataW.Trod enc Try.prog w 0 spare held 9 v y places) : ∃ s : Bytes, RepPV Try.prog (heapOf w) (.str s) v ∧ s.length ≤ maxLen := by
  obtain ⟨ps, hs, hr⟩ := arg_rep (d := 0) (by kernel_rfl) hok h
  obtain ⟨s, rfl, hl⟩ := shp_str Try.underlying9 hs
  exact ⟨s, hr, hl⟩
theorem arg_strs (hok : Value.okWide Try.prog w r b0 26 v) (h : DataW.Trod enc Try.prog w 0 spare held 26 v y places) : ∃ l : List Bytes, RepPV Try.prog (heapOf w) (.rs 1 (l.map .str)) v ∧ l.length ≤ maxLen ∧ ∀ s ∈ l, s.length ≤ maxLen := by
  obtain ⟨ps, hs, hr⟩ := arg_rep (d := 1) (by kernel_rfl) hok h
  obtain ⟨l, rfl, hl⟩ := shp_strs Try.underlying26 Try.underlying9 (by kernel_rfl) (by kernel_rfl) hs
  exact ⟨l, hr, hl⟩
end
/-- a law, called -/
theorem run_law {g : Nat} {M : List PV → Option PV} (hl : Ab.look tab_28 g = some M) {W : World} {xs : Array Value} {ps : List PV} (hM : M ps = some (.bool true)) (hn : ps.length = xs.size) (hr : ∀ (i : Nat) p x, ps[i]? = some p → xs[i]? = some x → RepPV Try.prog (heapOf W) p x) :
    Calls Try.prog g xs W fun e W' => e = .returned (.bool true) ∧ Below W.heap.size W W' := by
  have hs := ok_28 (g, M) (look_mem hl)
  refine (hs.2 ps (.bool true) hM W (heapOf W) xs (fun _ _ h => h) (fun g cs h => by cases h) hn hr).mono ?_
  rintro e w' ⟨y, rfl, hb, hy⟩
  cases hy
  exact ⟨rfl, hb.toBelow⟩
end Go.Proofs.Ytklnckbjikhkgaa
