/- Functions of the library as entries of a table: the kit's contracts of them. -/
import Derived.Test.YtinbhofpofcmeaaGreatDoorAbStdD
import Derived.Shelf.Strings.Search2
import Derived.Shelf.Strconv.Itoa3
import Derived.Shelf.Strconv.AtoiAll
import Derived.Lib.AppendIntMem
import Derived.Lib.ItoaLen
import Derived.Lib.AtoiErrMem
set_option linter.unusedVariables false
namespace Go.Ab
open Go.Proofs Go.Shelf
open Go.RowKit (Below)

section
variable {P : Program} {ρ : Ren} {G : Nat → Option (List PV)} {μ : Ro} {w w' : World} {g : Nat}

theorem rep_str {s : Bytes} {x : Value} (h : RepPV P μ (.str s) x) : x = .string ⟨s.toArray⟩ ∧ s.length ≤ maxLen := by
  cases h with | str h => exact ⟨rfl, h⟩
theorem one_of {xs : Array Value} (h : 1 = xs.size) : ∃ x, xs = #[x] := by
  obtain ⟨l⟩ := xs
  match l, h with
  | [x], _ => exact ⟨x, rfl⟩
  | [], h => simp at h
  | _ :: _ :: _, h => simp at h
theorem two_of {xs : Array Value} (h : 2 = xs.size) : ∃ x y, xs = #[x, y] := by
  obtain ⟨l⟩ := xs
  match l, h with
  | [x, y], _ => exact ⟨x, y, rfl⟩
  | [], h => simp at h
  | [_], h => simp at h
  | _ :: _ :: _ :: _, h => simp at h
theorem indexByte_len (s : Bytes) (c : UInt8) : -1 ≤ Lib.indexByte s c ∧ Lib.indexByte s c < s.length + 1 := by
  refine ⟨Lib.indexByte_ge s c, ?_⟩
  have h1 := Lib.indexByte_ge s c
  by_cases h : Lib.indexByte s c = -1
  · omega
  · obtain ⟨o, ho⟩ : ∃ o : Nat, Lib.indexByte s c = o := ⟨(Lib.indexByte s c).toNat, by omega⟩
    have := (Lib.indexByte_some ho).1
    have := (List.getElem?_eq_some_iff.1 this).1
    omega
theorem wf_i64 {n : Int} (h0 : -9223372036854775808 ≤ n) (h1 : n ≤ 9223372036854775807) : (Lit.int .i64 n).wf = true := by
  rw [wf_bool]; simp [IntKind.min, IntKind.max, IntKind.signed, IntKind.bits]; omega
theorem of_wf_i64 {n : Int} (h : (Lit.int .i64 n).wf = true) : -9223372036854775808 ≤ n ∧ n ≤ 9223372036854775807 := by
  rw [wf_bool] at h; simpa [IntKind.min, IntKind.max, IntKind.signed, IntKind.bits] using h

theorem index1_ok (L : Lays.n219 P ρ) (hf : ∃ fn c, P.funcs[ρ.f 219]? = some fn ∧ fn.body = some c ∧ (fn.name == "runtime.NumGoroutine") = false) : SoundF P G (ρ.f 219) index1_M := by
  refine ⟨hf, fun ps r h w μ xs _ _ hlen hrep => ?_⟩
  unfold index1_M at h
  split at h
  · rename_i s c
    simp only [Option.some.injEq] at h; subst h
    obtain ⟨x, y, rfl⟩ := two_of hlen
    obtain ⟨rfl, h1⟩ := rep_str (hrep 0 _ x rfl rfl)
    obtain ⟨rfl, h2⟩ := rep_str (hrep 1 _ y rfl rfl)
    refine (Any.stringslite_Index_one L ⟨s.toArray⟩ c w).mono ?_
    rintro e w' ⟨rfl, rfl⟩
    have := indexByte_len s c
    have hm : (maxLen : Int) = 9223372036854775807 := rfl
    exact ⟨_, rfl, Bel.refl _ _, .int (wf_i64 (by omega) (by omega))⟩
  · cases h

theorem var_cell {cs : List PV} (hμ : ∀ b o, μ b = some o → w.heap[b]? = some o) (h : VarIs P μ g cs) : ∃ (c : Array Value) (T : TypeId) (z : Nat × Nat), w.heap[g]? = some (.cells c T z) ∧ c.size = cs.length ∧ ∀ (i : Nat) p, cs[i]? = some p → ∃ x, c[i]? = some x ∧ RepPV P μ p x := by
  obtain ⟨c, T, z, h1, h2⟩ := h.size
  refine ⟨c, T, z, hμ _ _ h1, h2, fun i p hi => ?_⟩
  have hr := h.rep
  cases hr with
  | rp X a1 a2 a3 =>
    have := a1 i p hi
    unfold cellAt at this
    rw [h1] at this
    exact ⟨X i, by simpa using this, a2 i p hi⟩

theorem tab_of (hμ : ∀ b o, μ b = some o → w.heap[b]? = some o) (hn : P.globalNamed "internal/strconv.uint64pow10" = some g) (h : VarIs P μ g powCells) : Lib.TabIs P w "internal/strconv.uint64pow10" .u64 Lib.pow10Tab := by
  obtain ⟨c, T, z, h1, h2, h3⟩ := var_cell hμ h
  unfold Lib.TabIs World.var?
  rw [hn]
  simp only [Option.bind_some, h1, Option.some.injEq]
  apply Array.ext
  · rw [h2]; simp [powCells]
  · intro i hi hi2
    simp only [List.size_toArray, List.length_map] at hi2
    obtain ⟨x, x1, x2⟩ := h3 i (.int .u64 Lib.pow10Tab[i]) (by simp [powCells, List.getElem?_eq_getElem hi2])
    rw [Array.getElem?_eq_getElem hi] at x1
    simp only [Option.some.injEq] at x1
    rw [x1]
    cases x2
    simp

theorem itoa_ok (L : LaysM.n171 P ρ) (hf : ∃ fn c, P.funcs[ρ.f 171]? = some fn ∧ fn.body = some c ∧ (fn.name == "runtime.NumGoroutine") = false) (hn : P.globalNamed "internal/strconv.uint64pow10" = some g) (hG : G g = some powCells) : SoundF P G (ρ.f 171) itoa_M := by
  refine ⟨hf, fun ps r h w μ xs hμ hgl hlen hrep => ?_⟩
  unfold itoa_M at h
  split at h
  · rename_i n
    simp only [Option.some.injEq] at h; subst h
    obtain ⟨x, rfl⟩ := one_of hlen
    have hx := hrep 0 _ x rfl rfl
    cases hx with
    | int hw =>
      obtain ⟨h0, h1⟩ := of_wf_i64 hw
      refine (Any.strconv_Itoa L n h0 h1 w (tab_of hμ hn (hgl _ _ hG))).mono ?_
      rintro e w' ⟨rfl, k, os, rfl⟩
      have hl := Lib.itoa_length_le n h0 h1
      have hm : maxLen = 9223372036854775807 := rfl
      exact ⟨_, rfl, ⟨Lib.below_grow _ _ (Nat.le_refl _) _ _, fun _ => by show w.drawn ≤ w.drawn + k; omega⟩, .str (by omega)⟩
  · cases h

theorem atoi_ok (hd : drawsUp = false) {g1 g2 : Nat} (L : LaysC.n172 P ρ) (hf : ∃ fn c, P.funcs[ρ.f 172]? = some fn ∧ fn.body = some c ∧ (fn.name == "runtime.NumGoroutine") = false) (e1 : ρ.g 15 = g1) (e2 : ρ.g 16 = g2) (hG1 : G g1 = some [.ifc true]) (hG2 : G g2 = some [.ifc true]) : SoundF P G (ρ.f 172) atoi_M := by
  have bel : ∀ {w w' : World}, Below w.heap.size w w' → Bel w.heap.size w w' := fun h => ⟨h, fun u => by rw [hd] at u; cases u⟩
  refine ⟨hf, fun ps r h w μ xs hμ hgl hlen hrep => ?_⟩
  have cellv : ∀ {g : Nat}, G g = some [.ifc true] → ∃ ev, w.cell? ⟨g, 0, none⟩ = some ev ∧ (ev = .nilIface ∨ ∃ te pe, ev = .iface te pe) := fun {g} hg => by
    obtain ⟨c, T, z, h1, h2, h3⟩ := var_cell hμ (hgl _ _ hg)
    obtain ⟨x, x1, x2⟩ := h3 0 _ rfl
    refine ⟨x, by simp [World.cell?, h1, x1], ?_⟩
    cases x2
    exact .inr ⟨_, _, rfl⟩
  unfold atoi_M at h
  split at h
  · rename_i s
    obtain ⟨x, rfl⟩ := one_of hlen
    obtain ⟨rfl, hs⟩ := rep_str (hrep 0 _ x rfl rfl)
    split at h
    · rename_i hl
      have hsz : (⟨s.toArray⟩ : ByteArray).size = s.length := by simp [ByteArray.size]
      have hdl : (⟨s.toArray⟩ : ByteArray).data.toList = s := rfl
      split at h
      · rename_i v hv
        simp only [Option.some.injEq] at h; subst h
        refine (Any.strconv_Atoi_ok L ⟨s.toArray⟩ (by omega) v (by rw [hdl]; exact hv) w).mono ?_
        rintro e w' ⟨rfl, hw⟩
        have hb : Below w.heap.size w w' := by
          rcases hw with rfl | ⟨t, rfl⟩
          · exact Below.refl _ _
          · exact Lib.bytesWorld_below _ _ _
        obtain ⟨b0, b1⟩ := Lib.atoiAll_bounds hv
        refine ⟨_, rfl, bel hb, .tup (by simp) fun i p y hp hy => ?_⟩
        match i with
        | 0 => simp at hp hy; subst hp; subst hy; exact .int (wf_i64 (by omega) (by omega))
        | 1 => simp at hp hy; subst hp; subst hy; exact .ifcN
        | n + 2 => simp at hp
      · rename_i hv
        simp only [Option.some.injEq] at h; subst h
        obtain ⟨ev, v1, v2⟩ := cellv hG1
        refine (Any.strconv_Atoi_syntax L ⟨s.toArray⟩ (by omega) (by rw [hdl]; exact hv) ev w (by rw [e1]; exact v1) v2).mono ?_
        rintro e w' ⟨N, rfl, _, _, hb⟩
        refine ⟨_, rfl, bel hb, .tup (by simp) fun i p y hp hy => ?_⟩
        match i with
        | 0 => simp at hp hy; subst hp; subst hy; exact .int (by decide)
        | 1 => simp at hp hy; subst hp; subst hy; exact .ifcS
        | n + 2 => simp at hp
      · rename_i hv
        simp only [Option.some.injEq] at h; subst h
        obtain ⟨ev, v1, v2⟩ := cellv hG2
        refine (Any.strconv_Atoi_range L ⟨s.toArray⟩ (by omega) (by rw [hdl]; exact hv) ev w (by rw [e2]; exact v1) v2).mono ?_
        rintro e w' ⟨N, rfl, _, _, hb⟩
        obtain ⟨b0, b1⟩ := Lib.atoiSat_bounds s
        refine ⟨_, rfl, bel hb, .tup (by simp) fun i p y hp hy => ?_⟩
        match i with
        | 0 => simp at hp hy; subst hp; subst hy; exact .int (wf_i64 (by omega) (by omega))
        | 1 => simp at hp hy; subst hp; subst hy; exact .ifcS
        | n + 2 => simp at hp
    · cases h
  · cases h
end
end Go.Ab
