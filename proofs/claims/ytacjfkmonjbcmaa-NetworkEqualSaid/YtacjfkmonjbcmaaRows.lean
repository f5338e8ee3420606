/-
  No cell of these rows narrows 'for every input' (looked for: loops, veiled, ifaces, maps, wideKeys, modest, calm, conditions, laid).
  DERIVED. THE GIVEN ROWS OF THIS SEAT. 5 by the template 'for every input the law returns true; each argument reads behind the call as it read before'; 0 by the template 'total and deterministic' (their statements: YtacjfkmonjbcmaaTotals.lean).
  GIVEN WITH THE SEED: the statements are not yours to turn. If you find one false, say at which input.
  Laid BY PROGRAM, IN A SANDBOX (cutbox-rows.mjs): the forced cells as the released guide's own fill.sh prints them over the translation a80f0fddf98cfcca… (all of the seat's roots in one cut). By AI agents, Wed Nov 11 2026. No macro, syntax, notation, axiom, sorry.
-/
import Derived.Test.YtacjfkmonjbcmaaChecked
import GoSem.Claim
import GoSem.ClaimJoined
import GoSem.ClaimMapViews
import Derived.JoinedTies
import Derived.KernelRfl
namespace Go.Proofs.Ytacjfkmonjbcmaa
/- THE CELL 'sum', in the pinned program and in every row, IS THE sha256 OF THE DUMP (.gsa) THAT YtacjfkmonjbcmaaProg.lean LOADS. Nothing in Lean hashes anything: it is a label: what it is worth is what the hold of that sum in a sandbox is worth. -/
noncomputable def Try.pinned : Pinned := { name := "ytacjfkmonjbcmaa", sum := "a80f0fddf98cfccaabe81ff98f5e72c6af8461586ffb97989c80c77a5d8abfae", checked := Try.checked }
namespace Rows
def none {H : Type} : Left H := { results := [], args := [] }

/-- 'transitlaw26.NetworkCheck': WHATEVER THE INPUT: true; the input reads as it did. -/
def networkCheckSpec : ChangeSpec := { name := "networkCheck", fn := fun _ => fun
  | [d] => { results := [.lit (.bool true)], args := [d] }
  | _ => none }
def networkCheckRow : OpenClaim := { program := "ytacjfkmonjbcmaa", sum := "a80f0fddf98cfccaabe81ff98f5e72c6af8461586ffb97989c80c77a5d8abfae", func := "transit/transitlaw26.NetworkCheck", spec := "networkCheck", unfollowed := true, recurses := true, plainKeys := false, apart := false }
def NetworkCheckSaid : Prop := networkCheckRow.holds Try.pinned (OpenSpec.ofChange networkCheckSpec)

/-- ITS FALSE NEIGHBOUR: 'it returns false'. Refute it at one input. -/
def networkCheckWrong : ChangeSpec := { name := "networkCheck", fn := fun _ => fun
  | [d] => { results := [.lit (.bool false)], args := [d] }
  | _ => none }
def NetworkCheckWrongFalsely : Prop := networkCheckRow.holds Try.pinned (OpenSpec.ofChange networkCheckWrong)

/-- 'transitlaw26.NetworkHorizon': WHATEVER THE INPUT: true; the input reads as it did. -/
def networkHorizonSpec : ChangeSpec := { name := "networkHorizon", fn := fun _ => fun
  | [d] => { results := [.lit (.bool true)], args := [d] }
  | _ => none }
def networkHorizonRow : OpenClaim := { program := "ytacjfkmonjbcmaa", sum := "a80f0fddf98cfccaabe81ff98f5e72c6af8461586ffb97989c80c77a5d8abfae", func := "transit/transitlaw26.NetworkHorizon", spec := "networkHorizon", unfollowed := true, recurses := true, plainKeys := false, apart := false }
def NetworkHorizonSaid : Prop := networkHorizonRow.holds Try.pinned (OpenSpec.ofChange networkHorizonSpec)

/-- ITS FALSE NEIGHBOUR: 'it returns false'. Refute it at one input. -/
def networkHorizonWrong : ChangeSpec := { name := "networkHorizon", fn := fun _ => fun
  | [d] => { results := [.lit (.bool false)], args := [d] }
  | _ => none }
def NetworkHorizonWrongFalsely : Prop := networkHorizonRow.holds Try.pinned (OpenSpec.ofChange networkHorizonWrong)

/-- 'transitlaw26.NetworkClone': WHATEVER THE INPUT: true; the input reads as it did. -/
def networkCloneSpec : ChangeSpec := { name := "networkClone", fn := fun _ => fun
  | [d] => { results := [.lit (.bool true)], args := [d] }
  | _ => none }
def networkCloneRow : OpenClaim := { program := "ytacjfkmonjbcmaa", sum := "a80f0fddf98cfccaabe81ff98f5e72c6af8461586ffb97989c80c77a5d8abfae", func := "transit/transitlaw26.NetworkClone", spec := "networkClone", unfollowed := true, recurses := true, plainKeys := false, apart := false }
def NetworkCloneSaid : Prop := networkCloneRow.holds Try.pinned (OpenSpec.ofChange networkCloneSpec)

/-- ITS FALSE NEIGHBOUR: 'it returns false'. Refute it at one input. -/
def networkCloneWrong : ChangeSpec := { name := "networkClone", fn := fun _ => fun
  | [d] => { results := [.lit (.bool false)], args := [d] }
  | _ => none }
def NetworkCloneWrongFalsely : Prop := networkCloneRow.holds Try.pinned (OpenSpec.ofChange networkCloneWrong)

/-- 'transitlaw26.NetworkFollow': WHATEVER THE INPUT: true; the input reads as it did. -/
def networkFollowSpec : ChangeSpec := { name := "networkFollow", fn := fun _ => fun
  | [d1, d2, d3] => { results := [.lit (.bool true)], args := [d1, d2, d3] }
  | _ => none }
def networkFollowRow : OpenClaim := { program := "ytacjfkmonjbcmaa", sum := "a80f0fddf98cfccaabe81ff98f5e72c6af8461586ffb97989c80c77a5d8abfae", func := "transit/transitlaw26.NetworkFollow", spec := "networkFollow", unfollowed := true, recurses := true, plainKeys := false, apart := false }
def NetworkFollowSaid : Prop := networkFollowRow.holds Try.pinned (OpenSpec.ofChange networkFollowSpec)

/-- ITS FALSE NEIGHBOUR: 'it returns false'. Refute it at one input. -/
def networkFollowWrong : ChangeSpec := { name := "networkFollow", fn := fun _ => fun
  | [d1, d2, d3] => { results := [.lit (.bool false)], args := [d1, d2, d3] }
  | _ => none }
def NetworkFollowWrongFalsely : Prop := networkFollowRow.holds Try.pinned (OpenSpec.ofChange networkFollowWrong)

/-- 'transitlaw26.NetworkEqual': WHATEVER THE INPUT: true; the input reads as it did. -/
def networkEqualSpec : ChangeSpec := { name := "networkEqual", fn := fun _ => fun
  | [d1, d2] => { results := [.lit (.bool true)], args := [d1, d2] }
  | _ => none }
def networkEqualRow : OpenClaim := { program := "ytacjfkmonjbcmaa", sum := "a80f0fddf98cfccaabe81ff98f5e72c6af8461586ffb97989c80c77a5d8abfae", func := "transit/transitlaw26.NetworkEqual", spec := "networkEqual", unfollowed := true, recurses := true, plainKeys := false, apart := false }
def NetworkEqualSaid : Prop := networkEqualRow.holds Try.pinned (OpenSpec.ofChange networkEqualSpec)

/-- ITS FALSE NEIGHBOUR: 'it returns false'. Refute it at one input. -/
def networkEqualWrong : ChangeSpec := { name := "networkEqual", fn := fun _ => fun
  | [d1, d2] => { results := [.lit (.bool false)], args := [d1, d2] }
  | _ => none }
def NetworkEqualWrongFalsely : Prop := networkEqualRow.holds Try.pinned (OpenSpec.ofChange networkEqualWrong)

/- THE SECOND FORM. 'bulk': how many values and letters a reading holds, each counted each time it is reached (what is shared counts as often as it is met; a slice's spare places count too). A statement '..UptoSaid' is the law's where the arguments, and the package variables that the reading takes, are together of bulk at most 1048576: NARROWER than '..Said'. Prove '..Said' where nothing that the law and all that it calls make is longer than what came in: it says more and counts as full. Else prove '..UptoSaid'. A law counts once. -/
mutual
def uptoBulk {H : Type} : DataW H → Nat
  | .lit (.string bytes) => bytes.length + 1
  | .lit _ => 1
  | .nil => 1
  | .ptr d => uptoBulk d + 1
  | .slice elems spare => uptoBulkAll elems + uptoBulkAll spare + 1
  | .agg parts => uptoBulkAll parts + 1
  | .iface _ d => uptoBulk d + 1
  | .map entries => uptoBulkEntries entries + 1
  | .held _ => 1
def uptoBulkAll {H : Type} : List (DataW H) → Nat
  | [] => 0
  | d :: r => uptoBulk d + uptoBulkAll r
def uptoBulkEntries {H : Type} : List (Lit × DataW H) → Nat
  | [] => 0
  | x :: r => uptoBulkEntry x + uptoBulkEntries r
def uptoBulkEntry {H : Type} : Lit × DataW H → Nat
  | (.string bytes, d) => bytes.length + uptoBulk d + 1
  | (_, d) => uptoBulk d + 1
 end
def uptoSmall : (H : Type) → List (DataW H) → Bool := fun _ ds => decide (uptoBulkAll ds ≤ 1048576)
def OpenSpec.upto (s : _root_.Go.ChangeSpec) : _root_.Go.OpenSpec := { _root_.Go.OpenSpec.ofChange s with cond := some uptoSmall }

/-- 'transitlaw26.NetworkCheck', WHERE WHAT IT READS IS OF BULK AT MOST 1048576: true; the input reads as it did. -/
def networkCheckUptoRow : OpenClaim := { program := "ytacjfkmonjbcmaa", sum := "a80f0fddf98cfccaabe81ff98f5e72c6af8461586ffb97989c80c77a5d8abfae", func := "transit/transitlaw26.NetworkCheck", spec := "networkCheck", unfollowed := true, recurses := true, plainKeys := false, apart := false, narrowed := true }
def NetworkCheckUptoSaid : Prop := networkCheckUptoRow.holds Try.pinned (OpenSpec.upto networkCheckSpec)

/-- 'transitlaw26.NetworkHorizon', WHERE WHAT IT READS IS OF BULK AT MOST 1048576: true; the input reads as it did. -/
def networkHorizonUptoRow : OpenClaim := { program := "ytacjfkmonjbcmaa", sum := "a80f0fddf98cfccaabe81ff98f5e72c6af8461586ffb97989c80c77a5d8abfae", func := "transit/transitlaw26.NetworkHorizon", spec := "networkHorizon", unfollowed := true, recurses := true, plainKeys := false, apart := false, narrowed := true }
def NetworkHorizonUptoSaid : Prop := networkHorizonUptoRow.holds Try.pinned (OpenSpec.upto networkHorizonSpec)

/-- 'transitlaw26.NetworkClone', WHERE WHAT IT READS IS OF BULK AT MOST 1048576: true; the input reads as it did. -/
def networkCloneUptoRow : OpenClaim := { program := "ytacjfkmonjbcmaa", sum := "a80f0fddf98cfccaabe81ff98f5e72c6af8461586ffb97989c80c77a5d8abfae", func := "transit/transitlaw26.NetworkClone", spec := "networkClone", unfollowed := true, recurses := true, plainKeys := false, apart := false, narrowed := true }
def NetworkCloneUptoSaid : Prop := networkCloneUptoRow.holds Try.pinned (OpenSpec.upto networkCloneSpec)

/-- 'transitlaw26.NetworkFollow', WHERE WHAT IT READS IS OF BULK AT MOST 1048576: true; the input reads as it did. -/
def networkFollowUptoRow : OpenClaim := { program := "ytacjfkmonjbcmaa", sum := "a80f0fddf98cfccaabe81ff98f5e72c6af8461586ffb97989c80c77a5d8abfae", func := "transit/transitlaw26.NetworkFollow", spec := "networkFollow", unfollowed := true, recurses := true, plainKeys := false, apart := false, narrowed := true }
def NetworkFollowUptoSaid : Prop := networkFollowUptoRow.holds Try.pinned (OpenSpec.upto networkFollowSpec)

/-- 'transitlaw26.NetworkEqual', WHERE WHAT IT READS IS OF BULK AT MOST 1048576: true; the input reads as it did. -/
def networkEqualUptoRow : OpenClaim := { program := "ytacjfkmonjbcmaa", sum := "a80f0fddf98cfccaabe81ff98f5e72c6af8461586ffb97989c80c77a5d8abfae", func := "transit/transitlaw26.NetworkEqual", spec := "networkEqual", unfollowed := true, recurses := true, plainKeys := false, apart := false, narrowed := true }
def NetworkEqualUptoSaid : Prop := networkEqualUptoRow.holds Try.pinned (OpenSpec.upto networkEqualSpec)

end Rows
end Go.Proofs.Ytacjfkmonjbcmaa
