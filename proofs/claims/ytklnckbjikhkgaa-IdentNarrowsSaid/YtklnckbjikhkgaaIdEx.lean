/- The example that each law looks at: a table of three names. -/
import Derived.Test.YtklnckbjikhkgaaIdA
namespace Go.Ab.Tt
set_option maxRecDepth 100000
set_option linter.unusedVariables false
set_option linter.unusedSimpArgs false

/-- the names of the example -/
def exN : List Bytes := [[98], [97, 46, 50], [97]]
def exNames : List PV := [.str [98], .str [97, 46, 50], .str [97]]
def exMap : List (PV × PV) := [(.str [98], .int .i64 0), (.str [97, 46, 50], .int .i64 1), (.str [97], .int .i64 2)]
def nmAt (l : List Bytes) (i : Int) : Bytes := l.getD i.toNat []
theorem mem3 {a : Int} (h : a ∈ ([0, 1, 2] : List Int)) : a = 0 ∨ a = 1 ∨ a = 2 := by simpa using h
theorem ex_fits : SortFits (fun c a b => ident_New_1_M [a, b, PV.rp [PV.rp [PV.rs 1 exNames, PV.rm 9 (exMap.map fun x => x.1) (exMap.map fun x => x.2), PV.rs 1 c]]]) [0, 1, 2] [2, 1, 0] (fun a b => cmpB (nmAt exN a) (nmAt exN b)) where
  perm := by decide
  reads := fun c hc hm a ha b hb => by
    rcases mem3 ha with rfl | rfl | rfl <;> rcases mem3 hb with rfl | rfl | rfl <;> rfl
  irrefl := by decide
  trans := by decide
  total := by decide
  sorted := by decide
theorem ex_sort : sortS (fun c a b => ident_New_1_M [a, b, PV.rp [PV.rp [PV.rs 1 exNames, PV.rm 9 (exMap.map fun x => x.1) (exMap.map fun x => x.2), PV.rs 1 c]]]) [.int .i64 0, .int .i64 1, .int .i64 2] = some [.int .i64 2, .int .i64 1, .int .i64 0] := sortS_eq ex_fits
theorem ex_reach : law05_exampleHolds_M [] = law05_exampleHolds_L1 lpS (3, 3, 2, 6, 1, 12, exNames, exMap, [.int .i64 0, .int .i64 1, .int .i64 2], ()) (fun _ => none) := by kernel_rfl
theorem ex_ends : law05_exampleHolds_L1 lpS (3, 3, 2, 6, 1, 12, exNames, exMap, [.int .i64 0, .int .i64 1, .int .i64 2], ()) (fun _ => none) = some (.bool true) := by
  unfold law05_exampleHolds_L1
  rw [if_neg (by decide), if_pos (by decide)]
  refine (congrArg (fun o => Option.bind o _) ex_sort).trans ?_
  kernel_rfl
theorem ex_holds : law05_exampleHolds_M [] = some (.bool true) := ex_reach.trans ex_ends

/-! ### the first two laws -/
theorem valids_law (s : Bytes) (hs : s.length ≤ maxLen) : law05_IdentValids_M [.str s] = some (.bool true) := by
  simp only [law05_IdentValids_M, law05_IdentValids, asStr, bind_some', ident_ok s hs, ref05_ok s hs, Ab.asBool, ex_holds, beq_self_eq_true]
  cases decide ((s.length : Int) > 4096) <;> rfl
theorem compares_law (s t : Bytes) (hs : s.length ≤ maxLen) (ht : t.length ≤ maxLen) : law05_IdentCompares_M [.str s, .str t] = some (.bool true) := by
  simp only [law05_IdentCompares_M, law05_IdentCompares, asStr, bind_some', cmp_prog, cmp_ref s t hs ht, Ab.asBool, Ab.asInt, ex_holds, beq_self_eq_true, cond_true, if_true]
  cases decide ((s.length : Int) > 4096) <;> cases decide ((t.length : Int) > 4096) <;> rfl
end Go.Ab.Tt
