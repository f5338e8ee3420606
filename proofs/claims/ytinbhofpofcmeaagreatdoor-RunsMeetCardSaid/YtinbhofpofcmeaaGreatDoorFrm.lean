/- What the listed variables give a walk; the shapes of runs; a law called. -/
import Derived.Test.YtinbhofpofcmeaaGreatDoorTab
import Derived.Test.YtinbhofpofcmeaaGreatDoorShp
import Derived.Test.YtinbhofpofcmeaaGreatDoorRnR
import Derived.Test.YtinbhofpofcmeaaGreatDoorAbStd
import Derived.Test.YtinbhofpofcmeaaGreatDoorTie
import Derived.Stop.LaidErr
import Derived.Lib.LaidTab
import Derived.SevenTiedAt
namespace Go.Proofs.YtinbhofpofcmeaaGreatDoor
open Go.ChangeShapes Go.WideShapes Go.ChangeAt Go.RowKit Go.Ab

theorem own25 : ownKnob Tryz.prog.godebug = none := by kernel_rfl
theorem laidOut25 : laidOutB Tryz.prog = true := by kernel_rfl
theorem plainT25 : plainT Tryz.prog 8 35 = true := by kernel_rfl
theorem aggT25 : isAggT Tryz.prog 35 = true := by kernel_rfl
/-! ### the listed variables -/
theorem gES : Tryz.prog.globalNamed "strconv.ErrSyntax" = some 1 := by kernel_rfl
theorem gER : Tryz.prog.globalNamed "strconv.ErrRange" = some 2 := by kernel_rfl
theorem gTab : Tryz.prog.globalNamed "internal/strconv.uint64pow10" = some 3 := by kernel_rfl
theorem tES : (Tryz.prog.globals[1]?).map (·.type) = some 104 := by kernel_rfl
theorem tER : (Tryz.prog.globals[2]?).map (·.type) = some 104 := by kernel_rfl
theorem tTab : (Tryz.prog.globals[3]?).map (·.type) = some 228 := by kernel_rfl
theorem cells238 : Tryz.prog.cellsOf 238 = 1 := by kernel_rfl
theorem cells9 : Tryz.prog.cellsOf 9 = 1 := by kernel_rfl
theorem cells210 : Tryz.prog.cellsOf 210 = 1 := by kernel_rfl
theorem cells228 : Tryz.prog.cellsOf 228 = 20 := by kernel_rfl
theorem starE : "*" ++ "errors.errorString" = "*errors.errorString" := by decide
theorem row236 (u : TypeId) (h : Tryz.prog.typeName? 3 u = some "*errors.errorString") : u = 236 :=
  typeName_ptr_named (nm := "errors.errorString") (by rw [starE]; kernel_rfl) (by kernel_rfl) (by decide) u (by rw [starE]; exact h)
def laid5 : List (String × DataW Unit) := [("math/bits.deBruijn32tab", Rows.laid_math_bits_deBruijn32tab), ("math/bits.deBruijn64tab", Rows.laid_math_bits_deBruijn64tab), ("internal/strconv.uint64pow10", Rows.laid_internal_strconv_uint64pow10), ("strconv.ErrRange", Rows.laid_strconv_ErrRange), ("strconv.ErrSyntax", Rows.laid_strconv_ErrSyntax)]
theorem varIs_of {W : World} {n : String} {g : Nat} {c : Array Value} {cs : List PV} (hn : Tryz.prog.globalNamed n = some g) (hv : W.var? Tryz.prog n = some c) (hl : c.size = cs.length)
    (hr : ∀ (i : Nat) p, cs[i]? = some p → ∃ x, c[i]? = some x ∧ RepPV Tryz.prog (heapOf W) p x ∧ x.oneCell' = true) : VarIs Tryz.prog (heapOf W) g cs := by
  unfold World.var? at hv
  rw [hn] at hv
  simp only [Option.bind_some] at hv
  cases hb : W.heap[g]? with
  | none => rw [hb] at hv; cases hv
  | some o =>
    rw [hb] at hv
    cases o with
    | cells c' T z =>
      simp only [Option.some.injEq] at hv
      subst hv
      have hx : ∀ i : Nat, i < cs.length → ∃ x, c'[i]? = some x := fun i hi => by
        obtain ⟨x, hx, _⟩ := hr i _ (List.getElem?_eq_getElem hi)
        exact ⟨x, hx⟩
      refine ⟨.rp (fun i => c'[i]?.getD .nilIface) (fun i p hp => ?_) (fun i p hp => ?_) (fun i hi => ?_), c', T, z, hb, hl⟩
      · obtain ⟨x, hx, _⟩ := hr i p hp
        simp only [cellAt, heapOf, hb, Nat.zero_add, hx, Option.getD_some]
      · obtain ⟨x, hx, h1, _⟩ := hr i p hp
        rw [hx]; exact h1
      · obtain ⟨x, hx, _, h2⟩ := hr i _ (List.getElem?_eq_getElem hi)
        rw [hx]; exact h2
    | _ => cases hv
theorem gl_of_laid {W : World} (hL : laidMet Tryz.prog laid5 W) : ∀ g cs, globs g = some cs → VarIs Tryz.prog (heapOf W) g cs := by
  have h3 := hL.tail.tail
  have h4 := h3.tail
  have h5 := h4.tail
  obtain ⟨a1, s1, hv1, -, -, -⟩ := laid_sentinel h4 gER tER Tryz.underlying104 row236 Tryz.underlying236 Tryz.underlying238 rfl rfl Tryz.underlying9 cells238 cells9
  obtain ⟨a0, s0, hv0, -, -, -⟩ := laid_sentinel h5 gES tES Tryz.underlying104 row236 Tryz.underlying236 Tryz.underlying238 rfl rfl Tryz.underlying9 cells238 cells9
  have htab : Lib.TabIs Tryz.prog W "internal/strconv.uint64pow10" .u64 Lib.pow10Tab := Lib.tabIs_of_head gTab tTab Tryz.underlying228 Tryz.underlying210 cells210 cells228 h3
  have one : ∀ {n : String} {g : Nat} {x : Value}, Tryz.prog.globalNamed n = some g → W.var? Tryz.prog n = some #[x] → RepPV Tryz.prog (heapOf W) (.ifc true) x → x.oneCell' = true → VarIs Tryz.prog (heapOf W) g [.ifc true] := fun hn hv hr ho => varIs_of hn hv rfl fun i p hp => by
    cases i with
    | zero => simp only [List.getElem?_cons_zero, Option.some.injEq] at hp; subst hp; exact ⟨_, rfl, hr, ho⟩
    | succ i => simp at hp
  intro g cs h
  unfold globs at h
  cases e1 : Nat.beq g 1 with
  | true =>
    obtain rfl := Nat.eq_of_beq_eq_true e1
    simp only [e1, cond_true, Option.some.injEq] at h
    subst h
    exact one gES hv0 .ifcS rfl
  | false =>
    cases e2 : Nat.beq g 2 with
    | true =>
      obtain rfl := Nat.eq_of_beq_eq_true e2
      simp only [e1, e2, cond_true, cond_false, Option.some.injEq] at h
      subst h
      exact one gER hv1 .ifcS rfl
    | false =>
      cases e3 : Nat.beq g 3 with
      | true =>
        obtain rfl := Nat.eq_of_beq_eq_true e3
        simp only [e1, e2, e3, cond_true, cond_false, Option.some.injEq] at h
        subst h
        refine varIs_of gTab htab (by simp [powCells]) fun i p hp => ?_
        have hi : i < powCells.length := (List.getElem?_eq_some_iff.1 hp).1
        have hi2 : i < Lib.pow10Tab.length := by simpa [powCells] using hi
        have hw : ∀ z ∈ Lib.pow10Tab, (Lit.int .u64 z).wf = true := by decide
        have hp2 : PV.int .u64 Lib.pow10Tab[i] = p := by
          simp only [powCells, List.getElem?_map, List.getElem?_eq_getElem hi2, Option.map_some, Option.some.injEq] at hp
          exact hp
        refine ⟨.int .u64 Lib.pow10Tab[i], by simp [List.getElem?_eq_getElem hi2], ?_, rfl⟩
        rw [← hp2]
        exact .int (hw _ (List.getElem_mem hi2))
      | false => simp only [e1, e2, e3, cond_false] at h; cases h

/-! ### one start that fits -/
abbrev synS : ByteArray := { data := #[105, 110, 118, 97, 108, 105, 100, 32, 115, 121, 110, 116, 97, 120] }
abbrev rngS : ByteArray := { data := #[118, 97, 108, 117, 101, 32, 111, 117, 116, 32, 111, 102, 32, 114, 97, 110, 103, 101] }
noncomputable def lowB : Nat := (World.holding Tryz.prog default ⟨#[], #[], []⟩).heap.size
def u8s (l : List Int) : Array Value := (l.map fun z => Value.int .u8 z).toArray
def tab32 : List Int := [0, 1, 28, 2, 29, 14, 24, 3, 30, 22, 20, 15, 25, 17, 4, 8, 31, 27, 13, 23, 21, 19, 16, 7, 26, 12, 18, 6, 11, 5, 10, 9]
def tab64 : List Int := [0, 1, 56, 2, 57, 49, 28, 3, 61, 58, 42, 50, 38, 29, 17, 4, 62, 47, 59, 36, 45, 43, 51, 22, 53, 39, 33, 30, 24, 18, 12, 5, 63, 55, 48, 27, 60, 41, 37, 16, 46, 35, 44, 21, 52, 32, 23, 11, 54, 26, 40, 15, 34, 20, 31, 10, 25, 14, 19, 9, 13, 8, 7, 6]
noncomputable def laidWorld (os : Os) : World :=
  let w0 := World.holding Tryz.prog os ⟨#[.cells #[.string synS] 238, .cells #[.string rngS] 238], #[], []⟩
  { w0 with heap := ((((w0.heap.modify 1 fun
      | .cells _ t frozen => .cells #[.iface 236 (.pointer (some ⟨lowB, 0, none⟩))] t frozen
      | o => o).modify 2 fun
      | .cells _ t frozen => .cells #[.iface 236 (.pointer (some ⟨lowB + 1, 0, none⟩))] t frozen
      | o => o).modify 3 fun
      | .cells _ t frozen => .cells (Lib.pow10Tab.map fun z => Value.int .u64 z).toArray t frozen
      | o => o).modify 4 fun
      | .cells _ t frozen => .cells (u8s tab32) t frozen
      | o => o).modify 5 fun
      | .cells _ t frozen => .cells (u8s tab64) t frozen
      | o => o }
set_option maxRecDepth 100000 in
theorem laidWorld_met (os : Os) (args : Array Value) : laidMet Tryz.prog laid5 ((laidWorld os).forCall (fun _ _ => 0) ⟨#[], args, []⟩).memory :=
  laidMet_of_run' 8 (by kernel_rfl) (by kernel_rfl)

set_option maxRecDepth 100000
/-! ### shapes of runs -/
end Go.Proofs.YtinbhofpofcmeaaGreatDoor
