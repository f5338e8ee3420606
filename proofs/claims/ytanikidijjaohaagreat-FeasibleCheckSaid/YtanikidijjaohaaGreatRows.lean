/-
  No cell of these rows narrows 'for every input' (looked for: loops, veiled, ifaces, maps, wideKeys, modest, calm, conditions, laid).
  DERIVED. THE GIVEN ROWS OF THIS SEAT. 7 by the template 'for every input the law returns true; each argument reads behind the call as it read before'; 0 by the template 'total and deterministic' (their statements: YtanikidijjaohaaGreatTotals.lean).
  GIVEN WITH THE SEED: the statements are not yours to turn. If you find one false, say at which input.
  Laid BY PROGRAM, IN A SANDBOX (cutbox-rows.mjs): the forced cells as the released guide's own fill.sh prints them over the translation 8c3ca8b39b17633e… (all of the seat's roots in one cut). By AI agents, Wed Nov 11 2026. No macro, syntax, notation, axiom, sorry.
-/
import Derived.Test.YtanikidijjaohaaGreatChecked
import GoSem.Claim
import GoSem.ClaimJoined
import GoSem.ClaimMapViews
import Derived.JoinedTies
import Derived.KernelRfl
namespace Go.Proofs.YtanikidijjaohaaGreat
/- THE CELL 'sum', in the pinned program and in every row, IS THE sha256 OF THE DUMP (.gsa) THAT YtanikidijjaohaaGreatProg.lean LOADS. Nothing in Lean hashes anything: it is a label: what it is worth is what the hold of that sum in a sandbox is worth. -/
noncomputable def Tryz.pinned : Pinned := { name := "ytanikidijjaohaagreat", sum := "8c3ca8b39b17633ef5096afddcfe7c9c1279d2a8965176d468f6ec33a0ded7b5", checked := Tryz.checked }
namespace Rows
def none {H : Type} : Left H := { results := [], args := [] }

/-- 'transitlaw39.FeasibleQuery': WHATEVER THE INPUT: true; the input reads as it did. -/
def feasibleQuerySpec : ChangeSpec := { name := "feasibleQuery", fn := fun _ => fun
  | [d1, d2] => { results := [.lit (.bool true)], args := [d1, d2] }
  | _ => none }
def feasibleQueryRow : OpenClaim := { program := "ytanikidijjaohaagreat", sum := "8c3ca8b39b17633ef5096afddcfe7c9c1279d2a8965176d468f6ec33a0ded7b5", func := "transit/transitlaw39.FeasibleQuery", spec := "feasibleQuery", unfollowed := true, recurses := true, plainKeys := false, apart := false }
def FeasibleQuerySaid : Prop := feasibleQueryRow.holds Tryz.pinned (OpenSpec.ofChange feasibleQuerySpec)

/-- ITS FALSE NEIGHBOUR: 'it returns false'. Refute it at one input. -/
def feasibleQueryWrong : ChangeSpec := { name := "feasibleQuery", fn := fun _ => fun
  | [d1, d2] => { results := [.lit (.bool false)], args := [d1, d2] }
  | _ => none }
def FeasibleQueryWrongFalsely : Prop := feasibleQueryRow.holds Tryz.pinned (OpenSpec.ofChange feasibleQueryWrong)

/-- 'transitlaw39.FeasibleCheck': WHATEVER THE INPUT: true; the input reads as it did. -/
def feasibleCheckSpec : ChangeSpec := { name := "feasibleCheck", fn := fun _ => fun
  | [d1, d2, d3] => { results := [.lit (.bool true)], args := [d1, d2, d3] }
  | _ => none }
def feasibleCheckRow : OpenClaim := { program := "ytanikidijjaohaagreat", sum := "8c3ca8b39b17633ef5096afddcfe7c9c1279d2a8965176d468f6ec33a0ded7b5", func := "transit/transitlaw39.FeasibleCheck", spec := "feasibleCheck", unfollowed := true, recurses := true, plainKeys := false, apart := false }
def FeasibleCheckSaid : Prop := feasibleCheckRow.holds Tryz.pinned (OpenSpec.ofChange feasibleCheckSpec)

/-- ITS FALSE NEIGHBOUR: 'it returns false'. Refute it at one input. -/
def feasibleCheckWrong : ChangeSpec := { name := "feasibleCheck", fn := fun _ => fun
  | [d1, d2, d3] => { results := [.lit (.bool false)], args := [d1, d2, d3] }
  | _ => none }
def FeasibleCheckWrongFalsely : Prop := feasibleCheckRow.holds Tryz.pinned (OpenSpec.ofChange feasibleCheckWrong)

/-- 'transitlaw39.FeasibleMore': WHATEVER THE INPUT: true; the input reads as it did. -/
def feasibleMoreSpec : ChangeSpec := { name := "feasibleMore", fn := fun _ => fun
  | [d1, d2, d3] => { results := [.lit (.bool true)], args := [d1, d2, d3] }
  | _ => none }
def feasibleMoreRow : OpenClaim := { program := "ytanikidijjaohaagreat", sum := "8c3ca8b39b17633ef5096afddcfe7c9c1279d2a8965176d468f6ec33a0ded7b5", func := "transit/transitlaw39.FeasibleMore", spec := "feasibleMore", unfollowed := true, recurses := true, plainKeys := false, apart := false }
def FeasibleMoreSaid : Prop := feasibleMoreRow.holds Tryz.pinned (OpenSpec.ofChange feasibleMoreSpec)

/-- ITS FALSE NEIGHBOUR: 'it returns false'. Refute it at one input. -/
def feasibleMoreWrong : ChangeSpec := { name := "feasibleMore", fn := fun _ => fun
  | [d1, d2, d3] => { results := [.lit (.bool false)], args := [d1, d2, d3] }
  | _ => none }
def FeasibleMoreWrongFalsely : Prop := feasibleMoreRow.holds Tryz.pinned (OpenSpec.ofChange feasibleMoreWrong)

/-- 'transitlaw39.FeasibleConstraints': WHATEVER THE INPUT: true; the input reads as it did. -/
def feasibleConstraintsSpec : ChangeSpec := { name := "feasibleConstraints", fn := fun _ => fun
  | [d1, d2, d3] => { results := [.lit (.bool true)], args := [d1, d2, d3] }
  | _ => none }
def feasibleConstraintsRow : OpenClaim := { program := "ytanikidijjaohaagreat", sum := "8c3ca8b39b17633ef5096afddcfe7c9c1279d2a8965176d468f6ec33a0ded7b5", func := "transit/transitlaw39.FeasibleConstraints", spec := "feasibleConstraints", unfollowed := true, recurses := true, plainKeys := false, apart := false }
def FeasibleConstraintsSaid : Prop := feasibleConstraintsRow.holds Tryz.pinned (OpenSpec.ofChange feasibleConstraintsSpec)

/-- ITS FALSE NEIGHBOUR: 'it returns false'. Refute it at one input. -/
def feasibleConstraintsWrong : ChangeSpec := { name := "feasibleConstraints", fn := fun _ => fun
  | [d1, d2, d3] => { results := [.lit (.bool false)], args := [d1, d2, d3] }
  | _ => none }
def FeasibleConstraintsWrongFalsely : Prop := feasibleConstraintsRow.holds Tryz.pinned (OpenSpec.ofChange feasibleConstraintsWrong)

/-- 'transitlaw39.FeasibleLeg': WHATEVER THE INPUT: true; the input reads as it did. -/
def feasibleLegSpec : ChangeSpec := { name := "feasibleLeg", fn := fun _ => fun
  | [d1, d2, d3] => { results := [.lit (.bool true)], args := [d1, d2, d3] }
  | _ => none }
def feasibleLegRow : OpenClaim := { program := "ytanikidijjaohaagreat", sum := "8c3ca8b39b17633ef5096afddcfe7c9c1279d2a8965176d468f6ec33a0ded7b5", func := "transit/transitlaw39.FeasibleLeg", spec := "feasibleLeg", unfollowed := true, recurses := true, plainKeys := false, apart := false }
def FeasibleLegSaid : Prop := feasibleLegRow.holds Tryz.pinned (OpenSpec.ofChange feasibleLegSpec)

/-- ITS FALSE NEIGHBOUR: 'it returns false'. Refute it at one input. -/
def feasibleLegWrong : ChangeSpec := { name := "feasibleLeg", fn := fun _ => fun
  | [d1, d2, d3] => { results := [.lit (.bool false)], args := [d1, d2, d3] }
  | _ => none }
def FeasibleLegWrongFalsely : Prop := feasibleLegRow.holds Tryz.pinned (OpenSpec.ofChange feasibleLegWrong)

/-- 'transitlaw39.FeasiblePrefix': WHATEVER THE INPUT: true; the input reads as it did. -/
def feasiblePrefixSpec : ChangeSpec := { name := "feasiblePrefix", fn := fun _ => fun
  | [d1, d2, d3] => { results := [.lit (.bool true)], args := [d1, d2, d3] }
  | _ => none }
def feasiblePrefixRow : OpenClaim := { program := "ytanikidijjaohaagreat", sum := "8c3ca8b39b17633ef5096afddcfe7c9c1279d2a8965176d468f6ec33a0ded7b5", func := "transit/transitlaw39.FeasiblePrefix", spec := "feasiblePrefix", unfollowed := true, recurses := true, plainKeys := false, apart := false }
def FeasiblePrefixSaid : Prop := feasiblePrefixRow.holds Tryz.pinned (OpenSpec.ofChange feasiblePrefixSpec)

/-- ITS FALSE NEIGHBOUR: 'it returns false'. Refute it at one input. -/
def feasiblePrefixWrong : ChangeSpec := { name := "feasiblePrefix", fn := fun _ => fun
  | [d1, d2, d3] => { results := [.lit (.bool false)], args := [d1, d2, d3] }
  | _ => none }
def FeasiblePrefixWrongFalsely : Prop := feasiblePrefixRow.holds Tryz.pinned (OpenSpec.ofChange feasiblePrefixWrong)

/-- 'transitlaw39.FeasibleExhaustive': WHATEVER THE INPUT: true; the input reads as it did. -/
def feasibleExhaustiveSpec : ChangeSpec := { name := "feasibleExhaustive", fn := fun _ => fun
  | [d1, d2] => { results := [.lit (.bool true)], args := [d1, d2] }
  | _ => none }
def feasibleExhaustiveRow : OpenClaim := { program := "ytanikidijjaohaagreat", sum := "8c3ca8b39b17633ef5096afddcfe7c9c1279d2a8965176d468f6ec33a0ded7b5", func := "transit/transitlaw39.FeasibleExhaustive", spec := "feasibleExhaustive", unfollowed := true, recurses := true, plainKeys := false, apart := false }
def FeasibleExhaustiveSaid : Prop := feasibleExhaustiveRow.holds Tryz.pinned (OpenSpec.ofChange feasibleExhaustiveSpec)

/-- ITS FALSE NEIGHBOUR: 'it returns false'. Refute it at one input. -/
def feasibleExhaustiveWrong : ChangeSpec := { name := "feasibleExhaustive", fn := fun _ => fun
  | [d1, d2] => { results := [.lit (.bool false)], args := [d1, d2] }
  | _ => none }
def FeasibleExhaustiveWrongFalsely : Prop := feasibleExhaustiveRow.holds Tryz.pinned (OpenSpec.ofChange feasibleExhaustiveWrong)

/- THE SECOND FORM. 'bulk': how many values and letters a reading holds, each counted each time it is reached (what is shared counts as often as it is met; a slice's spare places count too). A statement '..UptoSaid' is the law's where the arguments, and the package variables that the reading takes, are together of bulk at most 1048576: NARROWER than '..Said'. Prove '..Said' where nothing that the law and all that it calls make is longer than what came in: it says more and counts as full. Else prove '..UptoSaid'. A law counts once. -/
mutual
def uptoBulk {H : Type} : DataW H → Nat
  | .lit (.string bytes) => bytes.length + 1
  | .lit _ => 1
  | .nil => 1
  | .ptr d => uptoBulk d + 1
  | .slice elems spare => uptoBulkAll elems + uptoBulkAll spare + 1
  | .agg parts => uptoBulkAll parts + 1
  | .iface _ d => uptoBulk d + 1
  | .map entries => uptoBulkEntries entries + 1
  | .held _ => 1
def uptoBulkAll {H : Type} : List (DataW H) → Nat
  | [] => 0
  | d :: r => uptoBulk d + uptoBulkAll r
def uptoBulkEntries {H : Type} : List (Lit × DataW H) → Nat
  | [] => 0
  | x :: r => uptoBulkEntry x + uptoBulkEntries r
def uptoBulkEntry {H : Type} : Lit × DataW H → Nat
  | (.string bytes, d) => bytes.length + uptoBulk d + 1
  | (_, d) => uptoBulk d + 1
 end
def uptoSmall : (H : Type) → List (DataW H) → Bool := fun _ ds => decide (uptoBulkAll ds ≤ 1048576)
def OpenSpec.upto (s : _root_.Go.ChangeSpec) : _root_.Go.OpenSpec := { _root_.Go.OpenSpec.ofChange s with cond := some uptoSmall }

/-- 'transitlaw39.FeasibleQuery', WHERE WHAT IT READS IS OF BULK AT MOST 1048576: true; the input reads as it did. -/
def feasibleQueryUptoRow : OpenClaim := { program := "ytanikidijjaohaagreat", sum := "8c3ca8b39b17633ef5096afddcfe7c9c1279d2a8965176d468f6ec33a0ded7b5", func := "transit/transitlaw39.FeasibleQuery", spec := "feasibleQuery", unfollowed := true, recurses := true, plainKeys := false, apart := false, narrowed := true }
def FeasibleQueryUptoSaid : Prop := feasibleQueryUptoRow.holds Tryz.pinned (OpenSpec.upto feasibleQuerySpec)

/-- 'transitlaw39.FeasibleCheck', WHERE WHAT IT READS IS OF BULK AT MOST 1048576: true; the input reads as it did. -/
def feasibleCheckUptoRow : OpenClaim := { program := "ytanikidijjaohaagreat", sum := "8c3ca8b39b17633ef5096afddcfe7c9c1279d2a8965176d468f6ec33a0ded7b5", func := "transit/transitlaw39.FeasibleCheck", spec := "feasibleCheck", unfollowed := true, recurses := true, plainKeys := false, apart := false, narrowed := true }
def FeasibleCheckUptoSaid : Prop := feasibleCheckUptoRow.holds Tryz.pinned (OpenSpec.upto feasibleCheckSpec)

/-- 'transitlaw39.FeasibleMore', WHERE WHAT IT READS IS OF BULK AT MOST 1048576: true; the input reads as it did. -/
def feasibleMoreUptoRow : OpenClaim := { program := "ytanikidijjaohaagreat", sum := "8c3ca8b39b17633ef5096afddcfe7c9c1279d2a8965176d468f6ec33a0ded7b5", func := "transit/transitlaw39.FeasibleMore", spec := "feasibleMore", unfollowed := true, recurses := true, plainKeys := false, apart := false, narrowed := true }
def FeasibleMoreUptoSaid : Prop := feasibleMoreUptoRow.holds Tryz.pinned (OpenSpec.upto feasibleMoreSpec)

/-- 'transitlaw39.FeasibleConstraints', WHERE WHAT IT READS IS OF BULK AT MOST 1048576: true; the input reads as it did. -/
def feasibleConstraintsUptoRow : OpenClaim := { program := "ytanikidijjaohaagreat", sum := "8c3ca8b39b17633ef5096afddcfe7c9c1279d2a8965176d468f6ec33a0ded7b5", func := "transit/transitlaw39.FeasibleConstraints", spec := "feasibleConstraints", unfollowed := true, recurses := true, plainKeys := false, apart := false, narrowed := true }
def FeasibleConstraintsUptoSaid : Prop := feasibleConstraintsUptoRow.holds Tryz.pinned (OpenSpec.upto feasibleConstraintsSpec)

/-- 'transitlaw39.FeasibleLeg', WHERE WHAT IT READS IS OF BULK AT MOST 1048576: true; the input reads as it did. -/
def feasibleLegUptoRow : OpenClaim := { program := "ytanikidijjaohaagreat", sum := "8c3ca8b39b17633ef5096afddcfe7c9c1279d2a8965176d468f6ec33a0ded7b5", func := "transit/transitlaw39.FeasibleLeg", spec := "feasibleLeg", unfollowed := true, recurses := true, plainKeys := false, apart := false, narrowed := true }
def FeasibleLegUptoSaid : Prop := feasibleLegUptoRow.holds Tryz.pinned (OpenSpec.upto feasibleLegSpec)

/-- 'transitlaw39.FeasiblePrefix', WHERE WHAT IT READS IS OF BULK AT MOST 1048576: true; the input reads as it did. -/
def feasiblePrefixUptoRow : OpenClaim := { program := "ytanikidijjaohaagreat", sum := "8c3ca8b39b17633ef5096afddcfe7c9c1279d2a8965176d468f6ec33a0ded7b5", func := "transit/transitlaw39.FeasiblePrefix", spec := "feasiblePrefix", unfollowed := true, recurses := true, plainKeys := false, apart := false, narrowed := true }
def FeasiblePrefixUptoSaid : Prop := feasiblePrefixUptoRow.holds Tryz.pinned (OpenSpec.upto feasiblePrefixSpec)

/-- 'transitlaw39.FeasibleExhaustive', WHERE WHAT IT READS IS OF BULK AT MOST 1048576: true; the input reads as it did. -/
def feasibleExhaustiveUptoRow : OpenClaim := { program := "ytanikidijjaohaagreat", sum := "8c3ca8b39b17633ef5096afddcfe7c9c1279d2a8965176d468f6ec33a0ded7b5", func := "transit/transitlaw39.FeasibleExhaustive", spec := "feasibleExhaustive", unfollowed := true, recurses := true, plainKeys := false, apart := false, narrowed := true }
def FeasibleExhaustiveUptoSaid : Prop := feasibleExhaustiveUptoRow.holds Tryz.pinned (OpenSpec.upto feasibleExhaustiveSpec)

end Rows
end Go.Proofs.YtanikidijjaohaaGreat
