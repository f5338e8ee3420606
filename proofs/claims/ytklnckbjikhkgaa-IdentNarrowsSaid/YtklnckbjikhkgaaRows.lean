/-
  No cell of these rows narrows 'for every input' (looked for: loops, veiled, ifaces, maps, wideKeys, modest, calm, conditions, laid).
  DERIVED. THE GIVEN ROWS OF THIS SEAT. 9 by the template 'for every input the law returns true; each argument reads behind the call as it read before'; 0 by the template 'total and deterministic' (their statements: YtklnckbjikhkgaaTotals.lean).
  GIVEN WITH THE SEED: the statements are not yours to turn. If you find one false, say at which input.
  Laid BY PROGRAM, IN A SANDBOX (cutbox-rows.mjs): the forced cells as the released guide's own fill.sh prints them over the translation feb6aa0d5d1ce4c6… (all of the seat's roots in one cut). By AI agents, Wed Nov 11 2026. No macro, syntax, notation, axiom, sorry.
-/
import Derived.Test.YtklnckbjikhkgaaChecked
import GoSem.Claim
import GoSem.ClaimJoined
import GoSem.ClaimMapViews
import Derived.JoinedTies
import Derived.KernelRfl
namespace Go.Proofs.Ytklnckbjikhkgaa
/- THE CELL 'sum', in the pinned program and in every row, IS THE sha256 OF THE DUMP (.gsa) THAT YtklnckbjikhkgaaProg.lean LOADS. Nothing in Lean hashes anything: it is a label: what it is worth is what the hold of that sum in a sandbox is worth. -/
noncomputable def Try.pinned : Pinned := { name := "ytklnckbjikhkgaa", sum := "feb6aa0d5d1ce4c69291345fdfad71a487605d9432e385e2d7d1df14f9f59f89", checked := Try.checked }
namespace Rows
def none {H : Type} : Left H := { results := [], args := [] }

/-- 'transitlaw05.IdentValids': WHATEVER THE INPUT: true; the input reads as it did. -/
def identValidsSpec : ChangeSpec := { name := "identValids", fn := fun _ => fun
  | [d] => { results := [.lit (.bool true)], args := [d] }
  | _ => none }
def identValidsRow : OpenClaim := { program := "ytklnckbjikhkgaa", sum := "feb6aa0d5d1ce4c69291345fdfad71a487605d9432e385e2d7d1df14f9f59f89", func := "transit/transitlaw05.IdentValids", spec := "identValids", unfollowed := true, recurses := true, apart := false }
def IdentValidsSaid : Prop := identValidsRow.holds Try.pinned (OpenSpec.ofChange identValidsSpec)

/-- ITS FALSE NEIGHBOUR: 'it returns false'. Refute it at one input. -/
def identValidsWrong : ChangeSpec := { name := "identValids", fn := fun _ => fun
  | [d] => { results := [.lit (.bool false)], args := [d] }
  | _ => none }
def IdentValidsWrongFalsely : Prop := identValidsRow.holds Try.pinned (OpenSpec.ofChange identValidsWrong)

/-- 'transitlaw05.IdentCompares': WHATEVER THE INPUT: true; the input reads as it did. -/
def identComparesSpec : ChangeSpec := { name := "identCompares", fn := fun _ => fun
  | [d1, d2] => { results := [.lit (.bool true)], args := [d1, d2] }
  | _ => none }
def identComparesRow : OpenClaim := { program := "ytklnckbjikhkgaa", sum := "feb6aa0d5d1ce4c69291345fdfad71a487605d9432e385e2d7d1df14f9f59f89", func := "transit/transitlaw05.IdentCompares", spec := "identCompares", unfollowed := true, recurses := true, apart := false }
def IdentComparesSaid : Prop := identComparesRow.holds Try.pinned (OpenSpec.ofChange identComparesSpec)

/-- ITS FALSE NEIGHBOUR: 'it returns false'. Refute it at one input. -/
def identComparesWrong : ChangeSpec := { name := "identCompares", fn := fun _ => fun
  | [d1, d2] => { results := [.lit (.bool false)], args := [d1, d2] }
  | _ => none }
def IdentComparesWrongFalsely : Prop := identComparesRow.holds Try.pinned (OpenSpec.ofChange identComparesWrong)

/-- 'transitlaw05.IdentUniques': WHATEVER THE INPUT: true; the input reads as it did. -/
def identUniquesSpec : ChangeSpec := { name := "identUniques", fn := fun _ => fun
  | [d] => { results := [.lit (.bool true)], args := [d] }
  | _ => none }
def identUniquesRow : OpenClaim := { program := "ytklnckbjikhkgaa", sum := "feb6aa0d5d1ce4c69291345fdfad71a487605d9432e385e2d7d1df14f9f59f89", func := "transit/transitlaw05.IdentUniques", spec := "identUniques", unfollowed := true, recurses := true, apart := false }
def IdentUniquesSaid : Prop := identUniquesRow.holds Try.pinned (OpenSpec.ofChange identUniquesSpec)

/-- ITS FALSE NEIGHBOUR: 'it returns false'. Refute it at one input. -/
def identUniquesWrong : ChangeSpec := { name := "identUniques", fn := fun _ => fun
  | [d] => { results := [.lit (.bool false)], args := [d] }
  | _ => none }
def IdentUniquesWrongFalsely : Prop := identUniquesRow.holds Try.pinned (OpenSpec.ofChange identUniquesWrong)

/-- 'transitlaw05.IdentFinds': WHATEVER THE INPUT: true; the input reads as it did. -/
def identFindsSpec : ChangeSpec := { name := "identFinds", fn := fun _ => fun
  | [d1, d2, d3] => { results := [.lit (.bool true)], args := [d1, d2, d3] }
  | _ => none }
def identFindsRow : OpenClaim := { program := "ytklnckbjikhkgaa", sum := "feb6aa0d5d1ce4c69291345fdfad71a487605d9432e385e2d7d1df14f9f59f89", func := "transit/transitlaw05.IdentFinds", spec := "identFinds", unfollowed := true, recurses := true, apart := false }
def IdentFindsSaid : Prop := identFindsRow.holds Try.pinned (OpenSpec.ofChange identFindsSpec)

/-- ITS FALSE NEIGHBOUR: 'it returns false'. Refute it at one input. -/
def identFindsWrong : ChangeSpec := { name := "identFinds", fn := fun _ => fun
  | [d1, d2, d3] => { results := [.lit (.bool false)], args := [d1, d2, d3] }
  | _ => none }
def IdentFindsWrongFalsely : Prop := identFindsRow.holds Try.pinned (OpenSpec.ofChange identFindsWrong)

/-- 'transitlaw05.IdentSections': WHATEVER THE INPUT: true; the input reads as it did. -/
def identSectionsSpec : ChangeSpec := { name := "identSections", fn := fun _ => fun
  | [d1, d2] => { results := [.lit (.bool true)], args := [d1, d2] }
  | _ => none }
def identSectionsRow : OpenClaim := { program := "ytklnckbjikhkgaa", sum := "feb6aa0d5d1ce4c69291345fdfad71a487605d9432e385e2d7d1df14f9f59f89", func := "transit/transitlaw05.IdentSections", spec := "identSections", unfollowed := true, recurses := true, apart := false }
def IdentSectionsSaid : Prop := identSectionsRow.holds Try.pinned (OpenSpec.ofChange identSectionsSpec)

/-- ITS FALSE NEIGHBOUR: 'it returns false'. Refute it at one input. -/
def identSectionsWrong : ChangeSpec := { name := "identSections", fn := fun _ => fun
  | [d1, d2] => { results := [.lit (.bool false)], args := [d1, d2] }
  | _ => none }
def IdentSectionsWrongFalsely : Prop := identSectionsRow.holds Try.pinned (OpenSpec.ofChange identSectionsWrong)

/-- 'transitlaw05.IdentOrders': WHATEVER THE INPUT: true; the input reads as it did. -/
def identOrdersSpec : ChangeSpec := { name := "identOrders", fn := fun _ => fun
  | [d1, d2, d3] => { results := [.lit (.bool true)], args := [d1, d2, d3] }
  | _ => none }
def identOrdersRow : OpenClaim := { program := "ytklnckbjikhkgaa", sum := "feb6aa0d5d1ce4c69291345fdfad71a487605d9432e385e2d7d1df14f9f59f89", func := "transit/transitlaw05.IdentOrders", spec := "identOrders", unfollowed := true, recurses := true, apart := false }
def IdentOrdersSaid : Prop := identOrdersRow.holds Try.pinned (OpenSpec.ofChange identOrdersSpec)

/-- ITS FALSE NEIGHBOUR: 'it returns false'. Refute it at one input. -/
def identOrdersWrong : ChangeSpec := { name := "identOrders", fn := fun _ => fun
  | [d1, d2, d3] => { results := [.lit (.bool false)], args := [d1, d2, d3] }
  | _ => none }
def IdentOrdersWrongFalsely : Prop := identOrdersRow.holds Try.pinned (OpenSpec.ofChange identOrdersWrong)

/-- 'transitlaw05.IdentTable': WHATEVER THE INPUT: true; the input reads as it did. -/
def identTableSpec : ChangeSpec := { name := "identTable", fn := fun _ => fun
  | [d1, d2] => { results := [.lit (.bool true)], args := [d1, d2] }
  | _ => none }
def identTableRow : OpenClaim := { program := "ytklnckbjikhkgaa", sum := "feb6aa0d5d1ce4c69291345fdfad71a487605d9432e385e2d7d1df14f9f59f89", func := "transit/transitlaw05.IdentTable", spec := "identTable", unfollowed := true, recurses := true, apart := false }
def IdentTableSaid : Prop := identTableRow.holds Try.pinned (OpenSpec.ofChange identTableSpec)

/-- ITS FALSE NEIGHBOUR: 'it returns false'. Refute it at one input. -/
def identTableWrong : ChangeSpec := { name := "identTable", fn := fun _ => fun
  | [d1, d2] => { results := [.lit (.bool false)], args := [d1, d2] }
  | _ => none }
def IdentTableWrongFalsely : Prop := identTableRow.holds Try.pinned (OpenSpec.ofChange identTableWrong)

/-- 'transitlaw05.IdentNils': WHATEVER THE INPUT: true; the input reads as it did. -/
def identNilsSpec : ChangeSpec := { name := "identNils", fn := fun _ => fun
  | [d1, d2] => { results := [.lit (.bool true)], args := [d1, d2] }
  | _ => none }
def identNilsRow : OpenClaim := { program := "ytklnckbjikhkgaa", sum := "feb6aa0d5d1ce4c69291345fdfad71a487605d9432e385e2d7d1df14f9f59f89", func := "transit/transitlaw05.IdentNils", spec := "identNils", unfollowed := true, recurses := true, apart := false }
def IdentNilsSaid : Prop := identNilsRow.holds Try.pinned (OpenSpec.ofChange identNilsSpec)

/-- ITS FALSE NEIGHBOUR: 'it returns false'. Refute it at one input. -/
def identNilsWrong : ChangeSpec := { name := "identNils", fn := fun _ => fun
  | [d1, d2] => { results := [.lit (.bool false)], args := [d1, d2] }
  | _ => none }
def IdentNilsWrongFalsely : Prop := identNilsRow.holds Try.pinned (OpenSpec.ofChange identNilsWrong)

/-- 'transitlaw05.IdentNarrows': WHATEVER THE INPUT: true; the input reads as it did. -/
def identNarrowsSpec : ChangeSpec := { name := "identNarrows", fn := fun _ => fun
  | [d1, d2, d3] => { results := [.lit (.bool true)], args := [d1, d2, d3] }
  | _ => none }
def identNarrowsRow : OpenClaim := { program := "ytklnckbjikhkgaa", sum := "feb6aa0d5d1ce4c69291345fdfad71a487605d9432e385e2d7d1df14f9f59f89", func := "transit/transitlaw05.IdentNarrows", spec := "identNarrows", unfollowed := true, recurses := true, apart := false }
def IdentNarrowsSaid : Prop := identNarrowsRow.holds Try.pinned (OpenSpec.ofChange identNarrowsSpec)

/-- ITS FALSE NEIGHBOUR: 'it returns false'. Refute it at one input. -/
def identNarrowsWrong : ChangeSpec := { name := "identNarrows", fn := fun _ => fun
  | [d1, d2, d3] => { results := [.lit (.bool false)], args := [d1, d2, d3] }
  | _ => none }
def IdentNarrowsWrongFalsely : Prop := identNarrowsRow.holds Try.pinned (OpenSpec.ofChange identNarrowsWrong)

/- THE SECOND FORM. 'bulk': how many values and letters a reading holds, each counted each time it is reached (what is shared counts as often as it is met; a slice's spare places count too). A statement '..UptoSaid' is the law's where the arguments, and the package variables that the reading takes, are together of bulk at most 1048576: NARROWER than '..Said'. Prove '..Said' where nothing that the law and all that it calls make is longer than what came in: it says more and counts as full. Else prove '..UptoSaid'. A law counts once. -/
mutual
def uptoBulk {H : Type} : DataW H → Nat
  | .lit (.string bytes) => bytes.length + 1
  | .lit _ => 1
  | .nil => 1
  | .ptr d => uptoBulk d + 1
  | .slice elems spare => uptoBulkAll elems + uptoBulkAll spare + 1
  | .agg parts => uptoBulkAll parts + 1
  | .iface _ d => uptoBulk d + 1
  | .map entries => uptoBulkEntries entries + 1
  | .held _ => 1
def uptoBulkAll {H : Type} : List (DataW H) → Nat
  | [] => 0
  | d :: r => uptoBulk d + uptoBulkAll r
def uptoBulkEntries {H : Type} : List (Lit × DataW H) → Nat
  | [] => 0
  | x :: r => uptoBulkEntry x + uptoBulkEntries r
def uptoBulkEntry {H : Type} : Lit × DataW H → Nat
  | (.string bytes, d) => bytes.length + uptoBulk d + 1
  | (_, d) => uptoBulk d + 1
 end
def uptoSmall : (H : Type) → List (DataW H) → Bool := fun _ ds => decide (uptoBulkAll ds ≤ 1048576)
def OpenSpec.upto (s : _root_.Go.ChangeSpec) : _root_.Go.OpenSpec := { _root_.Go.OpenSpec.ofChange s with cond := some uptoSmall }

/-- 'transitlaw05.IdentValids', WHERE WHAT IT READS IS OF BULK AT MOST 1048576: true; the input reads as it did. -/
def identValidsUptoRow : OpenClaim := { program := "ytklnckbjikhkgaa", sum := "feb6aa0d5d1ce4c69291345fdfad71a487605d9432e385e2d7d1df14f9f59f89", func := "transit/transitlaw05.IdentValids", spec := "identValids", unfollowed := true, recurses := true, apart := false, narrowed := true }
def IdentValidsUptoSaid : Prop := identValidsUptoRow.holds Try.pinned (OpenSpec.upto identValidsSpec)

/-- 'transitlaw05.IdentCompares', WHERE WHAT IT READS IS OF BULK AT MOST 1048576: true; the input reads as it did. -/
def identComparesUptoRow : OpenClaim := { program := "ytklnckbjikhkgaa", sum := "feb6aa0d5d1ce4c69291345fdfad71a487605d9432e385e2d7d1df14f9f59f89", func := "transit/transitlaw05.IdentCompares", spec := "identCompares", unfollowed := true, recurses := true, apart := false, narrowed := true }
def IdentComparesUptoSaid : Prop := identComparesUptoRow.holds Try.pinned (OpenSpec.upto identComparesSpec)

/-- 'transitlaw05.IdentUniques', WHERE WHAT IT READS IS OF BULK AT MOST 1048576: true; the input reads as it did. -/
def identUniquesUptoRow : OpenClaim := { program := "ytklnckbjikhkgaa", sum := "feb6aa0d5d1ce4c69291345fdfad71a487605d9432e385e2d7d1df14f9f59f89", func := "transit/transitlaw05.IdentUniques", spec := "identUniques", unfollowed := true, recurses := true, apart := false, narrowed := true }
def IdentUniquesUptoSaid : Prop := identUniquesUptoRow.holds Try.pinned (OpenSpec.upto identUniquesSpec)

/-- 'transitlaw05.IdentFinds', WHERE WHAT IT READS IS OF BULK AT MOST 1048576: true; the input reads as it did. -/
def identFindsUptoRow : OpenClaim := { program := "ytklnckbjikhkgaa", sum := "feb6aa0d5d1ce4c69291345fdfad71a487605d9432e385e2d7d1df14f9f59f89", func := "transit/transitlaw05.IdentFinds", spec := "identFinds", unfollowed := true, recurses := true, apart := false, narrowed := true }
def IdentFindsUptoSaid : Prop := identFindsUptoRow.holds Try.pinned (OpenSpec.upto identFindsSpec)

/-- 'transitlaw05.IdentSections', WHERE WHAT IT READS IS OF BULK AT MOST 1048576: true; the input reads as it did. -/
def identSectionsUptoRow : OpenClaim := { program := "ytklnckbjikhkgaa", sum := "feb6aa0d5d1ce4c69291345fdfad71a487605d9432e385e2d7d1df14f9f59f89", func := "transit/transitlaw05.IdentSections", spec := "identSections", unfollowed := true, recurses := true, apart := false, narrowed := true }
def IdentSectionsUptoSaid : Prop := identSectionsUptoRow.holds Try.pinned (OpenSpec.upto identSectionsSpec)

/-- 'transitlaw05.IdentOrders', WHERE WHAT IT READS IS OF BULK AT MOST 1048576: true; the input reads as it did. -/
def identOrdersUptoRow : OpenClaim := { program := "ytklnckbjikhkgaa", sum := "feb6aa0d5d1ce4c69291345fdfad71a487605d9432e385e2d7d1df14f9f59f89", func := "transit/transitlaw05.IdentOrders", spec := "identOrders", unfollowed := true, recurses := true, apart := false, narrowed := true }
def IdentOrdersUptoSaid : Prop := identOrdersUptoRow.holds Try.pinned (OpenSpec.upto identOrdersSpec)

/-- 'transitlaw05.IdentTable', WHERE WHAT IT READS IS OF BULK AT MOST 1048576: true; the input reads as it did. -/
def identTableUptoRow : OpenClaim := { program := "ytklnckbjikhkgaa", sum := "feb6aa0d5d1ce4c69291345fdfad71a487605d9432e385e2d7d1df14f9f59f89", func := "transit/transitlaw05.IdentTable", spec := "identTable", unfollowed := true, recurses := true, apart := false, narrowed := true }
def IdentTableUptoSaid : Prop := identTableUptoRow.holds Try.pinned (OpenSpec.upto identTableSpec)

/-- 'transitlaw05.IdentNils', WHERE WHAT IT READS IS OF BULK AT MOST 1048576: true; the input reads as it did. -/
def identNilsUptoRow : OpenClaim := { program := "ytklnckbjikhkgaa", sum := "feb6aa0d5d1ce4c69291345fdfad71a487605d9432e385e2d7d1df14f9f59f89", func := "transit/transitlaw05.IdentNils", spec := "identNils", unfollowed := true, recurses := true, apart := false, narrowed := true }
def IdentNilsUptoSaid : Prop := identNilsUptoRow.holds Try.pinned (OpenSpec.upto identNilsSpec)

/-- 'transitlaw05.IdentNarrows', WHERE WHAT IT READS IS OF BULK AT MOST 1048576: true; the input reads as it did. -/
def identNarrowsUptoRow : OpenClaim := { program := "ytklnckbjikhkgaa", sum := "feb6aa0d5d1ce4c69291345fdfad71a487605d9432e385e2d7d1df14f9f59f89", func := "transit/transitlaw05.IdentNarrows", spec := "identNarrows", unfollowed := true, recurses := true, apart := false, narrowed := true }
def IdentNarrowsUptoSaid : Prop := identNarrowsUptoRow.holds Try.pinned (OpenSpec.upto identNarrowsSpec)

end Rows
end Go.Proofs.Ytklnckbjikhkgaa
