/-
  No cell of these rows narrows 'for every input' (looked for: loops, veiled, ifaces, maps, wideKeys, modest, calm, conditions, laid).
  DERIVED. THE GIVEN ROWS OF THIS SEAT. 7 by the template 'for every input the law returns true; each argument reads behind the call as it read before'; 0 by the template 'total and deterministic' (their statements: YtcmhmlnkhmefbaaGreatTotals.lean).
  GIVEN WITH THE SEED: the statements are not yours to turn. If you find one false, say at which input.
  Laid BY PROGRAM, IN A SANDBOX (cutbox-rows.mjs): the forced cells as the released guide's own fill.sh prints them over the translation 8bef952ae956b64e… (all of the seat's roots in one cut). By AI agents, Wed Nov 11 2026. No macro, syntax, notation, axiom, sorry.
-/
import Derived.Test.YtcmhmlnkhmefbaaGreatChecked
import GoSem.Claim
import GoSem.ClaimJoined
import GoSem.ClaimMapViews
import Derived.JoinedTies
import Derived.KernelRfl
namespace Go.Proofs.YtcmhmlnkhmefbaaGreat
/- THE CELL 'sum', in the pinned program and in every row, IS THE sha256 OF THE DUMP (.gsa) THAT YtcmhmlnkhmefbaaGreatProg.lean LOADS. Nothing in Lean hashes anything: it is a label: what it is worth is what the hold of that sum in a sandbox is worth. -/
noncomputable def Tryz.pinned : Pinned := { name := "ytcmhmlnkhmefbaagreat", sum := "8bef952ae956b64ec0e761899d70916dfb25aec4b15441e3753022f7be437720", checked := Tryz.checked }
namespace Rows
def none {H : Type} : Left H := { results := [], args := [] }

/-- 'transitlaw33.OverlayTargets': WHATEVER THE INPUT: true; the input reads as it did. -/
def overlayTargetsSpec : ChangeSpec := { name := "overlayTargets", fn := fun _ => fun
  | [d1, d2] => { results := [.lit (.bool true)], args := [d1, d2] }
  | _ => none }
def overlayTargetsRow : OpenClaim := { program := "ytcmhmlnkhmefbaagreat", sum := "8bef952ae956b64ec0e761899d70916dfb25aec4b15441e3753022f7be437720", func := "transit/transitlaw33.OverlayTargets", spec := "overlayTargets", unfollowed := true, recurses := true, plainKeys := false, apart := false }
def OverlayTargetsSaid : Prop := overlayTargetsRow.holds Tryz.pinned (OpenSpec.ofChange overlayTargetsSpec)

/-- ITS FALSE NEIGHBOUR: 'it returns false'. Refute it at one input. -/
def overlayTargetsWrong : ChangeSpec := { name := "overlayTargets", fn := fun _ => fun
  | [d1, d2] => { results := [.lit (.bool false)], args := [d1, d2] }
  | _ => none }
def OverlayTargetsWrongFalsely : Prop := overlayTargetsRow.holds Tryz.pinned (OpenSpec.ofChange overlayTargetsWrong)

/-- 'transitlaw33.OverlayApplies': WHATEVER THE INPUT: true; the input reads as it did. -/
def overlayAppliesSpec : ChangeSpec := { name := "overlayApplies", fn := fun _ => fun
  | [d1, d2] => { results := [.lit (.bool true)], args := [d1, d2] }
  | _ => none }
def overlayAppliesRow : OpenClaim := { program := "ytcmhmlnkhmefbaagreat", sum := "8bef952ae956b64ec0e761899d70916dfb25aec4b15441e3753022f7be437720", func := "transit/transitlaw33.OverlayApplies", spec := "overlayApplies", unfollowed := true, recurses := true, plainKeys := false, apart := false }
def OverlayAppliesSaid : Prop := overlayAppliesRow.holds Tryz.pinned (OpenSpec.ofChange overlayAppliesSpec)

/-- ITS FALSE NEIGHBOUR: 'it returns false'. Refute it at one input. -/
def overlayAppliesWrong : ChangeSpec := { name := "overlayApplies", fn := fun _ => fun
  | [d1, d2] => { results := [.lit (.bool false)], args := [d1, d2] }
  | _ => none }
def OverlayAppliesWrongFalsely : Prop := overlayAppliesRow.holds Tryz.pinned (OpenSpec.ofChange overlayAppliesWrong)

/-- 'transitlaw33.OverlayRefuses': WHATEVER THE INPUT: true; the input reads as it did. -/
def overlayRefusesSpec : ChangeSpec := { name := "overlayRefuses", fn := fun _ => fun
  | [d1, d2] => { results := [.lit (.bool true)], args := [d1, d2] }
  | _ => none }
def overlayRefusesRow : OpenClaim := { program := "ytcmhmlnkhmefbaagreat", sum := "8bef952ae956b64ec0e761899d70916dfb25aec4b15441e3753022f7be437720", func := "transit/transitlaw33.OverlayRefuses", spec := "overlayRefuses", unfollowed := true, recurses := true, plainKeys := false, apart := false }
def OverlayRefusesSaid : Prop := overlayRefusesRow.holds Tryz.pinned (OpenSpec.ofChange overlayRefusesSpec)

/-- ITS FALSE NEIGHBOUR: 'it returns false'. Refute it at one input. -/
def overlayRefusesWrong : ChangeSpec := { name := "overlayRefuses", fn := fun _ => fun
  | [d1, d2] => { results := [.lit (.bool false)], args := [d1, d2] }
  | _ => none }
def OverlayRefusesWrongFalsely : Prop := overlayRefusesRow.holds Tryz.pinned (OpenSpec.ofChange overlayRefusesWrong)

/-- 'transitlaw33.OverlayAll': WHATEVER THE INPUT: true; the input reads as it did. -/
def overlayAllSpec : ChangeSpec := { name := "overlayAll", fn := fun _ => fun
  | [d1, d2] => { results := [.lit (.bool true)], args := [d1, d2] }
  | _ => none }
def overlayAllRow : OpenClaim := { program := "ytcmhmlnkhmefbaagreat", sum := "8bef952ae956b64ec0e761899d70916dfb25aec4b15441e3753022f7be437720", func := "transit/transitlaw33.OverlayAll", spec := "overlayAll", unfollowed := true, recurses := true, plainKeys := false, apart := false }
def OverlayAllSaid : Prop := overlayAllRow.holds Tryz.pinned (OpenSpec.ofChange overlayAllSpec)

/-- ITS FALSE NEIGHBOUR: 'it returns false'. Refute it at one input. -/
def overlayAllWrong : ChangeSpec := { name := "overlayAll", fn := fun _ => fun
  | [d1, d2] => { results := [.lit (.bool false)], args := [d1, d2] }
  | _ => none }
def OverlayAllWrongFalsely : Prop := overlayAllRow.holds Tryz.pinned (OpenSpec.ofChange overlayAllWrong)

/-- 'transitlaw33.OverlayLocal': WHATEVER THE INPUT: true; the input reads as it did. -/
def overlayLocalSpec : ChangeSpec := { name := "overlayLocal", fn := fun _ => fun
  | [d1, d2] => { results := [.lit (.bool true)], args := [d1, d2] }
  | _ => none }
def overlayLocalRow : OpenClaim := { program := "ytcmhmlnkhmefbaagreat", sum := "8bef952ae956b64ec0e761899d70916dfb25aec4b15441e3753022f7be437720", func := "transit/transitlaw33.OverlayLocal", spec := "overlayLocal", unfollowed := true, recurses := true, plainKeys := false, apart := false }
def OverlayLocalSaid : Prop := overlayLocalRow.holds Tryz.pinned (OpenSpec.ofChange overlayLocalSpec)

/-- ITS FALSE NEIGHBOUR: 'it returns false'. Refute it at one input. -/
def overlayLocalWrong : ChangeSpec := { name := "overlayLocal", fn := fun _ => fun
  | [d1, d2] => { results := [.lit (.bool false)], args := [d1, d2] }
  | _ => none }
def OverlayLocalWrongFalsely : Prop := overlayLocalRow.holds Tryz.pinned (OpenSpec.ofChange overlayLocalWrong)

/-- 'transitlaw33.OverlayCommutes': WHATEVER THE INPUT: true; the input reads as it did. -/
def overlayCommutesSpec : ChangeSpec := { name := "overlayCommutes", fn := fun _ => fun
  | [d1, d2, d3] => { results := [.lit (.bool true)], args := [d1, d2, d3] }
  | _ => none }
def overlayCommutesRow : OpenClaim := { program := "ytcmhmlnkhmefbaagreat", sum := "8bef952ae956b64ec0e761899d70916dfb25aec4b15441e3753022f7be437720", func := "transit/transitlaw33.OverlayCommutes", spec := "overlayCommutes", unfollowed := true, recurses := true, plainKeys := false, apart := false }
def OverlayCommutesSaid : Prop := overlayCommutesRow.holds Tryz.pinned (OpenSpec.ofChange overlayCommutesSpec)

/-- ITS FALSE NEIGHBOUR: 'it returns false'. Refute it at one input. -/
def overlayCommutesWrong : ChangeSpec := { name := "overlayCommutes", fn := fun _ => fun
  | [d1, d2, d3] => { results := [.lit (.bool false)], args := [d1, d2, d3] }
  | _ => none }
def OverlayCommutesWrongFalsely : Prop := overlayCommutesRow.holds Tryz.pinned (OpenSpec.ofChange overlayCommutesWrong)

/-- 'transitlaw33.OverlayRepeats': WHATEVER THE INPUT: true; the input reads as it did. -/
def overlayRepeatsSpec : ChangeSpec := { name := "overlayRepeats", fn := fun _ => fun
  | [d1, d2] => { results := [.lit (.bool true)], args := [d1, d2] }
  | _ => none }
def overlayRepeatsRow : OpenClaim := { program := "ytcmhmlnkhmefbaagreat", sum := "8bef952ae956b64ec0e761899d70916dfb25aec4b15441e3753022f7be437720", func := "transit/transitlaw33.OverlayRepeats", spec := "overlayRepeats", unfollowed := true, recurses := true, plainKeys := false, apart := false }
def OverlayRepeatsSaid : Prop := overlayRepeatsRow.holds Tryz.pinned (OpenSpec.ofChange overlayRepeatsSpec)

/-- ITS FALSE NEIGHBOUR: 'it returns false'. Refute it at one input. -/
def overlayRepeatsWrong : ChangeSpec := { name := "overlayRepeats", fn := fun _ => fun
  | [d1, d2] => { results := [.lit (.bool false)], args := [d1, d2] }
  | _ => none }
def OverlayRepeatsWrongFalsely : Prop := overlayRepeatsRow.holds Tryz.pinned (OpenSpec.ofChange overlayRepeatsWrong)

/- THE SECOND FORM. 'bulk': how many values and letters a reading holds, each counted each time it is reached (what is shared counts as often as it is met; a slice's spare places count too). A statement '..UptoSaid' is the law's where the arguments, and the package variables that the reading takes, are together of bulk at most 1048576: NARROWER than '..Said'. Prove '..Said' where nothing that the law and all that it calls make is longer than what came in: it says more and counts as full. Else prove '..UptoSaid'. A law counts once. -/
mutual
def uptoBulk {H : Type} : DataW H → Nat
  | .lit (.string bytes) => bytes.length + 1
  | .lit _ => 1
  | .nil => 1
  | .ptr d => uptoBulk d + 1
  | .slice elems spare => uptoBulkAll elems + uptoBulkAll spare + 1
  | .agg parts => uptoBulkAll parts + 1
  | .iface _ d => uptoBulk d + 1
  | .map entries => uptoBulkEntries entries + 1
  | .held _ => 1
def uptoBulkAll {H : Type} : List (DataW H) → Nat
  | [] => 0
  | d :: r => uptoBulk d + uptoBulkAll r
def uptoBulkEntries {H : Type} : List (Lit × DataW H) → Nat
  | [] => 0
  | x :: r => uptoBulkEntry x + uptoBulkEntries r
def uptoBulkEntry {H : Type} : Lit × DataW H → Nat
  | (.string bytes, d) => bytes.length + uptoBulk d + 1
  | (_, d) => uptoBulk d + 1
 end
def uptoSmall : (H : Type) → List (DataW H) → Bool := fun _ ds => decide (uptoBulkAll ds ≤ 1048576)
def OpenSpec.upto (s : _root_.Go.ChangeSpec) : _root_.Go.OpenSpec := { _root_.Go.OpenSpec.ofChange s with cond := some uptoSmall }

/-- 'transitlaw33.OverlayTargets', WHERE WHAT IT READS IS OF BULK AT MOST 1048576: true; the input reads as it did. -/
def overlayTargetsUptoRow : OpenClaim := { program := "ytcmhmlnkhmefbaagreat", sum := "8bef952ae956b64ec0e761899d70916dfb25aec4b15441e3753022f7be437720", func := "transit/transitlaw33.OverlayTargets", spec := "overlayTargets", unfollowed := true, recurses := true, plainKeys := false, apart := false, narrowed := true }
def OverlayTargetsUptoSaid : Prop := overlayTargetsUptoRow.holds Tryz.pinned (OpenSpec.upto overlayTargetsSpec)

/-- 'transitlaw33.OverlayApplies', WHERE WHAT IT READS IS OF BULK AT MOST 1048576: true; the input reads as it did. -/
def overlayAppliesUptoRow : OpenClaim := { program := "ytcmhmlnkhmefbaagreat", sum := "8bef952ae956b64ec0e761899d70916dfb25aec4b15441e3753022f7be437720", func := "transit/transitlaw33.OverlayApplies", spec := "overlayApplies", unfollowed := true, recurses := true, plainKeys := false, apart := false, narrowed := true }
def OverlayAppliesUptoSaid : Prop := overlayAppliesUptoRow.holds Tryz.pinned (OpenSpec.upto overlayAppliesSpec)

/-- 'transitlaw33.OverlayRefuses', WHERE WHAT IT READS IS OF BULK AT MOST 1048576: true; the input reads as it did. -/
def overlayRefusesUptoRow : OpenClaim := { program := "ytcmhmlnkhmefbaagreat", sum := "8bef952ae956b64ec0e761899d70916dfb25aec4b15441e3753022f7be437720", func := "transit/transitlaw33.OverlayRefuses", spec := "overlayRefuses", unfollowed := true, recurses := true, plainKeys := false, apart := false, narrowed := true }
def OverlayRefusesUptoSaid : Prop := overlayRefusesUptoRow.holds Tryz.pinned (OpenSpec.upto overlayRefusesSpec)

/-- 'transitlaw33.OverlayAll', WHERE WHAT IT READS IS OF BULK AT MOST 1048576: true; the input reads as it did. -/
def overlayAllUptoRow : OpenClaim := { program := "ytcmhmlnkhmefbaagreat", sum := "8bef952ae956b64ec0e761899d70916dfb25aec4b15441e3753022f7be437720", func := "transit/transitlaw33.OverlayAll", spec := "overlayAll", unfollowed := true, recurses := true, plainKeys := false, apart := false, narrowed := true }
def OverlayAllUptoSaid : Prop := overlayAllUptoRow.holds Tryz.pinned (OpenSpec.upto overlayAllSpec)

/-- 'transitlaw33.OverlayLocal', WHERE WHAT IT READS IS OF BULK AT MOST 1048576: true; the input reads as it did. -/
def overlayLocalUptoRow : OpenClaim := { program := "ytcmhmlnkhmefbaagreat", sum := "8bef952ae956b64ec0e761899d70916dfb25aec4b15441e3753022f7be437720", func := "transit/transitlaw33.OverlayLocal", spec := "overlayLocal", unfollowed := true, recurses := true, plainKeys := false, apart := false, narrowed := true }
def OverlayLocalUptoSaid : Prop := overlayLocalUptoRow.holds Tryz.pinned (OpenSpec.upto overlayLocalSpec)

/-- 'transitlaw33.OverlayCommutes', WHERE WHAT IT READS IS OF BULK AT MOST 1048576: true; the input reads as it did. -/
def overlayCommutesUptoRow : OpenClaim := { program := "ytcmhmlnkhmefbaagreat", sum := "8bef952ae956b64ec0e761899d70916dfb25aec4b15441e3753022f7be437720", func := "transit/transitlaw33.OverlayCommutes", spec := "overlayCommutes", unfollowed := true, recurses := true, plainKeys := false, apart := false, narrowed := true }
def OverlayCommutesUptoSaid : Prop := overlayCommutesUptoRow.holds Tryz.pinned (OpenSpec.upto overlayCommutesSpec)

/-- 'transitlaw33.OverlayRepeats', WHERE WHAT IT READS IS OF BULK AT MOST 1048576: true; the input reads as it did. -/
def overlayRepeatsUptoRow : OpenClaim := { program := "ytcmhmlnkhmefbaagreat", sum := "8bef952ae956b64ec0e761899d70916dfb25aec4b15441e3753022f7be437720", func := "transit/transitlaw33.OverlayRepeats", spec := "overlayRepeats", unfollowed := true, recurses := true, plainKeys := false, apart := false, narrowed := true }
def OverlayRepeatsUptoSaid : Prop := overlayRepeatsUptoRow.holds Tryz.pinned (OpenSpec.upto overlayRepeatsSpec)

end Rows
end Go.Proofs.YtcmhmlnkhmefbaaGreat
