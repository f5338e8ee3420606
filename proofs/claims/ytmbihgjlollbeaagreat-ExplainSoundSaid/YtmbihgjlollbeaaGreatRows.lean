/-
  No cell of these rows narrows 'for every input' (looked for: loops, veiled, ifaces, maps, wideKeys, modest, calm, conditions, laid).
  DERIVED. THE GIVEN ROWS OF THIS SEAT. 5 by the template 'for every input the law returns true; each argument reads behind the call as it read before'; 0 by the template 'total and deterministic' (their statements: YtmbihgjlollbeaaGreatTotals.lean).
  GIVEN WITH THE SEED: the statements are not yours to turn. If you find one false, say at which input.
  Laid BY PROGRAM, IN A SANDBOX (cutbox-rows.mjs): the forced cells as the released guide's own fill.sh prints them over the translation 74f5a8fe282d121e… (all of the seat's roots in one cut). By AI agents, Wed Nov 11 2026. No macro, syntax, notation, axiom, sorry.
-/
import Derived.Test.YtmbihgjlollbeaaGreatChecked
import GoSem.Claim
import GoSem.ClaimJoined
import GoSem.ClaimMapViews
import Derived.JoinedTies
import Derived.KernelRfl
namespace Go.Proofs.YtmbihgjlollbeaaGreat
/- THE CELL 'sum', in the pinned program and in every row, IS THE sha256 OF THE DUMP (.gsa) THAT YtmbihgjlollbeaaGreatProg.lean LOADS. Nothing in Lean hashes anything: it is a label: what it is worth is what the hold of that sum in a sandbox is worth. -/
noncomputable def Tryz.pinned : Pinned := { name := "ytmbihgjlollbeaagreat", sum := "74f5a8fe282d121e0aa0bfe76752e22c60f16ecc82669a165da52f991df8fa61", checked := Tryz.checked }
namespace Rows
def none {H : Type} : Left H := { results := [], args := [] }

/-- 'transitlaw47.ExplainFacts': WHATEVER THE INPUT: true; the input reads as it did. -/
def explainFactsSpec : ChangeSpec := { name := "explainFacts", fn := fun _ => fun
  | [d] => { results := [.lit (.bool true)], args := [d] }
  | _ => none }
def explainFactsRow : OpenClaim := { program := "ytmbihgjlollbeaagreat", sum := "74f5a8fe282d121e0aa0bfe76752e22c60f16ecc82669a165da52f991df8fa61", func := "transit/transitlaw47.ExplainFacts", spec := "explainFacts", unfollowed := true, recurses := true, plainKeys := false, apart := false }
def ExplainFactsSaid : Prop := explainFactsRow.holds Tryz.pinned (OpenSpec.ofChange explainFactsSpec)

/-- ITS FALSE NEIGHBOUR: 'it returns false'. Refute it at one input. -/
def explainFactsWrong : ChangeSpec := { name := "explainFacts", fn := fun _ => fun
  | [d] => { results := [.lit (.bool false)], args := [d] }
  | _ => none }
def ExplainFactsWrongFalsely : Prop := explainFactsRow.holds Tryz.pinned (OpenSpec.ofChange explainFactsWrong)

/-- 'transitlaw47.ExplainVerifies': WHATEVER THE INPUT: true; the input reads as it did. -/
def explainVerifiesSpec : ChangeSpec := { name := "explainVerifies", fn := fun _ => fun
  | [d1, d2] => { results := [.lit (.bool true)], args := [d1, d2] }
  | _ => none }
def explainVerifiesRow : OpenClaim := { program := "ytmbihgjlollbeaagreat", sum := "74f5a8fe282d121e0aa0bfe76752e22c60f16ecc82669a165da52f991df8fa61", func := "transit/transitlaw47.ExplainVerifies", spec := "explainVerifies", unfollowed := true, recurses := true, plainKeys := false, apart := false }
def ExplainVerifiesSaid : Prop := explainVerifiesRow.holds Tryz.pinned (OpenSpec.ofChange explainVerifiesSpec)

/-- ITS FALSE NEIGHBOUR: 'it returns false'. Refute it at one input. -/
def explainVerifiesWrong : ChangeSpec := { name := "explainVerifies", fn := fun _ => fun
  | [d1, d2] => { results := [.lit (.bool false)], args := [d1, d2] }
  | _ => none }
def ExplainVerifiesWrongFalsely : Prop := explainVerifiesRow.holds Tryz.pinned (OpenSpec.ofChange explainVerifiesWrong)

/-- 'transitlaw47.ExplainTexts': WHATEVER THE INPUT: true; the input reads as it did. -/
def explainTextsSpec : ChangeSpec := { name := "explainTexts", fn := fun _ => fun
  | [d1, d2] => { results := [.lit (.bool true)], args := [d1, d2] }
  | _ => none }
def explainTextsRow : OpenClaim := { program := "ytmbihgjlollbeaagreat", sum := "74f5a8fe282d121e0aa0bfe76752e22c60f16ecc82669a165da52f991df8fa61", func := "transit/transitlaw47.ExplainTexts", spec := "explainTexts", unfollowed := true, recurses := true, plainKeys := false, apart := false }
def ExplainTextsSaid : Prop := explainTextsRow.holds Tryz.pinned (OpenSpec.ofChange explainTextsSpec)

/-- ITS FALSE NEIGHBOUR: 'it returns false'. Refute it at one input. -/
def explainTextsWrong : ChangeSpec := { name := "explainTexts", fn := fun _ => fun
  | [d1, d2] => { results := [.lit (.bool false)], args := [d1, d2] }
  | _ => none }
def ExplainTextsWrongFalsely : Prop := explainTextsRow.holds Tryz.pinned (OpenSpec.ofChange explainTextsWrong)

/-- 'transitlaw47.ExplainSound': WHATEVER THE INPUT: true; the input reads as it did. -/
def explainSoundSpec : ChangeSpec := { name := "explainSound", fn := fun _ => fun
  | [d1, d2, d3] => { results := [.lit (.bool true)], args := [d1, d2, d3] }
  | _ => none }
def explainSoundRow : OpenClaim := { program := "ytmbihgjlollbeaagreat", sum := "74f5a8fe282d121e0aa0bfe76752e22c60f16ecc82669a165da52f991df8fa61", func := "transit/transitlaw47.ExplainSound", spec := "explainSound", unfollowed := true, recurses := true, plainKeys := false, apart := false }
def ExplainSoundSaid : Prop := explainSoundRow.holds Tryz.pinned (OpenSpec.ofChange explainSoundSpec)

/-- ITS FALSE NEIGHBOUR: 'it returns false'. Refute it at one input. -/
def explainSoundWrong : ChangeSpec := { name := "explainSound", fn := fun _ => fun
  | [d1, d2, d3] => { results := [.lit (.bool false)], args := [d1, d2, d3] }
  | _ => none }
def ExplainSoundWrongFalsely : Prop := explainSoundRow.holds Tryz.pinned (OpenSpec.ofChange explainSoundWrong)

/-- 'transitlaw47.ExplainCounts': WHATEVER THE INPUT: true; the input reads as it did. -/
def explainCountsSpec : ChangeSpec := { name := "explainCounts", fn := fun _ => fun
  | [d] => { results := [.lit (.bool true)], args := [d] }
  | _ => none }
def explainCountsRow : OpenClaim := { program := "ytmbihgjlollbeaagreat", sum := "74f5a8fe282d121e0aa0bfe76752e22c60f16ecc82669a165da52f991df8fa61", func := "transit/transitlaw47.ExplainCounts", spec := "explainCounts", unfollowed := true, recurses := true, plainKeys := false, apart := false }
def ExplainCountsSaid : Prop := explainCountsRow.holds Tryz.pinned (OpenSpec.ofChange explainCountsSpec)

/-- ITS FALSE NEIGHBOUR: 'it returns false'. Refute it at one input. -/
def explainCountsWrong : ChangeSpec := { name := "explainCounts", fn := fun _ => fun
  | [d] => { results := [.lit (.bool false)], args := [d] }
  | _ => none }
def ExplainCountsWrongFalsely : Prop := explainCountsRow.holds Tryz.pinned (OpenSpec.ofChange explainCountsWrong)

/- THE SECOND FORM. 'bulk': how many values and letters a reading holds, each counted each time it is reached (what is shared counts as often as it is met; a slice's spare places count too). A statement '..UptoSaid' is the law's where the arguments, and the package variables that the reading takes, are together of bulk at most 1048576: NARROWER than '..Said'. Prove '..Said' where nothing that the law and all that it calls make is longer than what came in: it says more and counts as full. Else prove '..UptoSaid'. A law counts once. -/
mutual
def uptoBulk {H : Type} : DataW H → Nat
  | .lit (.string bytes) => bytes.length + 1
  | .lit _ => 1
  | .nil => 1
  | .ptr d => uptoBulk d + 1
  | .slice elems spare => uptoBulkAll elems + uptoBulkAll spare + 1
  | .agg parts => uptoBulkAll parts + 1
  | .iface _ d => uptoBulk d + 1
  | .map entries => uptoBulkEntries entries + 1
  | .held _ => 1
def uptoBulkAll {H : Type} : List (DataW H) → Nat
  | [] => 0
  | d :: r => uptoBulk d + uptoBulkAll r
def uptoBulkEntries {H : Type} : List (Lit × DataW H) → Nat
  | [] => 0
  | x :: r => uptoBulkEntry x + uptoBulkEntries r
def uptoBulkEntry {H : Type} : Lit × DataW H → Nat
  | (.string bytes, d) => bytes.length + uptoBulk d + 1
  | (_, d) => uptoBulk d + 1
 end
def uptoSmall : (H : Type) → List (DataW H) → Bool := fun _ ds => decide (uptoBulkAll ds ≤ 1048576)
def OpenSpec.upto (s : _root_.Go.ChangeSpec) : _root_.Go.OpenSpec := { _root_.Go.OpenSpec.ofChange s with cond := some uptoSmall }

/-- 'transitlaw47.ExplainFacts', WHERE WHAT IT READS IS OF BULK AT MOST 1048576: true; the input reads as it did. -/
def explainFactsUptoRow : OpenClaim := { program := "ytmbihgjlollbeaagreat", sum := "74f5a8fe282d121e0aa0bfe76752e22c60f16ecc82669a165da52f991df8fa61", func := "transit/transitlaw47.ExplainFacts", spec := "explainFacts", unfollowed := true, recurses := true, plainKeys := false, apart := false, narrowed := true }
def ExplainFactsUptoSaid : Prop := explainFactsUptoRow.holds Tryz.pinned (OpenSpec.upto explainFactsSpec)

/-- 'transitlaw47.ExplainVerifies', WHERE WHAT IT READS IS OF BULK AT MOST 1048576: true; the input reads as it did. -/
def explainVerifiesUptoRow : OpenClaim := { program := "ytmbihgjlollbeaagreat", sum := "74f5a8fe282d121e0aa0bfe76752e22c60f16ecc82669a165da52f991df8fa61", func := "transit/transitlaw47.ExplainVerifies", spec := "explainVerifies", unfollowed := true, recurses := true, plainKeys := false, apart := false, narrowed := true }
def ExplainVerifiesUptoSaid : Prop := explainVerifiesUptoRow.holds Tryz.pinned (OpenSpec.upto explainVerifiesSpec)

/-- 'transitlaw47.ExplainTexts', WHERE WHAT IT READS IS OF BULK AT MOST 1048576: true; the input reads as it did. -/
def explainTextsUptoRow : OpenClaim := { program := "ytmbihgjlollbeaagreat", sum := "74f5a8fe282d121e0aa0bfe76752e22c60f16ecc82669a165da52f991df8fa61", func := "transit/transitlaw47.ExplainTexts", spec := "explainTexts", unfollowed := true, recurses := true, plainKeys := false, apart := false, narrowed := true }
def ExplainTextsUptoSaid : Prop := explainTextsUptoRow.holds Tryz.pinned (OpenSpec.upto explainTextsSpec)

/-- 'transitlaw47.ExplainSound', WHERE WHAT IT READS IS OF BULK AT MOST 1048576: true; the input reads as it did. -/
def explainSoundUptoRow : OpenClaim := { program := "ytmbihgjlollbeaagreat", sum := "74f5a8fe282d121e0aa0bfe76752e22c60f16ecc82669a165da52f991df8fa61", func := "transit/transitlaw47.ExplainSound", spec := "explainSound", unfollowed := true, recurses := true, plainKeys := false, apart := false, narrowed := true }
def ExplainSoundUptoSaid : Prop := explainSoundUptoRow.holds Tryz.pinned (OpenSpec.upto explainSoundSpec)

/-- 'transitlaw47.ExplainCounts', WHERE WHAT IT READS IS OF BULK AT MOST 1048576: true; the input reads as it did. -/
def explainCountsUptoRow : OpenClaim := { program := "ytmbihgjlollbeaagreat", sum := "74f5a8fe282d121e0aa0bfe76752e22c60f16ecc82669a165da52f991df8fa61", func := "transit/transitlaw47.ExplainCounts", spec := "explainCounts", unfollowed := true, recurses := true, plainKeys := false, apart := false, narrowed := true }
def ExplainCountsUptoSaid : Prop := explainCountsUptoRow.holds Tryz.pinned (OpenSpec.upto explainCountsSpec)

end Rows
end Go.Proofs.YtmbihgjlollbeaaGreat
