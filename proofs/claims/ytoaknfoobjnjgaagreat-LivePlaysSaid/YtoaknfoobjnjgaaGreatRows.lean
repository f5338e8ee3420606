/-
  No cell of these rows narrows 'for every input' (looked for: loops, veiled, ifaces, maps, wideKeys, modest, calm, conditions, laid).
  DERIVED. THE GIVEN ROWS OF THIS SEAT. 5 by the template 'for every input the law returns true; each argument reads behind the call as it read before'; 0 by the template 'total and deterministic' (their statements: YtoaknfoobjnjgaaGreatTotals.lean).
  GIVEN WITH THE SEED: the statements are not yours to turn. If you find one false, say at which input.
  Laid BY PROGRAM, IN A SANDBOX (cutbox-rows.mjs): the forced cells as the released guide's own fill.sh prints them over the translation 3c685b8ce75d2217… (all of the seat's roots in one cut). By AI agents, Wed Nov 11 2026. No macro, syntax, notation, axiom, sorry.
-/
import Derived.Test.YtoaknfoobjnjgaaGreatChecked
import GoSem.Claim
import GoSem.ClaimJoined
import GoSem.ClaimMapViews
import Derived.JoinedTies
import Derived.KernelRfl
namespace Go.Proofs.YtoaknfoobjnjgaaGreat
/- THE CELL 'sum', in the pinned program and in every row, IS THE sha256 OF THE DUMP (.gsa) THAT YtoaknfoobjnjgaaGreatProg.lean LOADS. Nothing in Lean hashes anything: it is a label: what it is worth is what the hold of that sum in a sandbox is worth. -/
noncomputable def Tryz.pinned : Pinned := { name := "ytoaknfoobjnjgaagreat", sum := "3c685b8ce75d22176733b8467522b520537453be592fc01865c68de759fbd175", checked := Tryz.checked }
namespace Rows
def none {H : Type} : Left H := { results := [], args := [] }

/-- 'transitlaw34.LiveNews': WHATEVER THE INPUT: true; the input reads as it did. -/
def liveNewsSpec : ChangeSpec := { name := "liveNews", fn := fun _ => fun
  | [d] => { results := [.lit (.bool true)], args := [d] }
  | _ => none }
def liveNewsRow : OpenClaim := { program := "ytoaknfoobjnjgaagreat", sum := "3c685b8ce75d22176733b8467522b520537453be592fc01865c68de759fbd175", func := "transit/transitlaw34.LiveNews", spec := "liveNews", unfollowed := true, recurses := true, plainKeys := false, apart := false }
def LiveNewsSaid : Prop := liveNewsRow.holds Tryz.pinned (OpenSpec.ofChange liveNewsSpec)

/-- ITS FALSE NEIGHBOUR: 'it returns false'. Refute it at one input. -/
def liveNewsWrong : ChangeSpec := { name := "liveNews", fn := fun _ => fun
  | [d] => { results := [.lit (.bool false)], args := [d] }
  | _ => none }
def LiveNewsWrongFalsely : Prop := liveNewsRow.holds Tryz.pinned (OpenSpec.ofChange liveNewsWrong)

/-- 'transitlaw34.LivePlays': WHATEVER THE INPUT: true; the input reads as it did. -/
def livePlaysSpec : ChangeSpec := { name := "livePlays", fn := fun _ => fun
  | [d1, d2] => { results := [.lit (.bool true)], args := [d1, d2] }
  | _ => none }
def livePlaysRow : OpenClaim := { program := "ytoaknfoobjnjgaagreat", sum := "3c685b8ce75d22176733b8467522b520537453be592fc01865c68de759fbd175", func := "transit/transitlaw34.LivePlays", spec := "livePlays", unfollowed := true, recurses := true, plainKeys := false, apart := false }
def LivePlaysSaid : Prop := livePlaysRow.holds Tryz.pinned (OpenSpec.ofChange livePlaysSpec)

/-- ITS FALSE NEIGHBOUR: 'it returns false'. Refute it at one input. -/
def livePlaysWrong : ChangeSpec := { name := "livePlays", fn := fun _ => fun
  | [d1, d2] => { results := [.lit (.bool false)], args := [d1, d2] }
  | _ => none }
def LivePlaysWrongFalsely : Prop := livePlaysRow.holds Tryz.pinned (OpenSpec.ofChange livePlaysWrong)

/-- 'transitlaw34.LiveOrder': WHATEVER THE INPUT: true; the input reads as it did. -/
def liveOrderSpec : ChangeSpec := { name := "liveOrder", fn := fun _ => fun
  | [d1, d2, d3] => { results := [.lit (.bool true)], args := [d1, d2, d3] }
  | _ => none }
def liveOrderRow : OpenClaim := { program := "ytoaknfoobjnjgaagreat", sum := "3c685b8ce75d22176733b8467522b520537453be592fc01865c68de759fbd175", func := "transit/transitlaw34.LiveOrder", spec := "liveOrder", unfollowed := true, recurses := true, plainKeys := false, apart := false }
def LiveOrderSaid : Prop := liveOrderRow.holds Tryz.pinned (OpenSpec.ofChange liveOrderSpec)

/-- ITS FALSE NEIGHBOUR: 'it returns false'. Refute it at one input. -/
def liveOrderWrong : ChangeSpec := { name := "liveOrder", fn := fun _ => fun
  | [d1, d2, d3] => { results := [.lit (.bool false)], args := [d1, d2, d3] }
  | _ => none }
def LiveOrderWrongFalsely : Prop := liveOrderRow.holds Tryz.pinned (OpenSpec.ofChange liveOrderWrong)

/-- 'transitlaw34.LiveIdle': WHATEVER THE INPUT: true; the input reads as it did. -/
def liveIdleSpec : ChangeSpec := { name := "liveIdle", fn := fun _ => fun
  | [d1, d2] => { results := [.lit (.bool true)], args := [d1, d2] }
  | _ => none }
def liveIdleRow : OpenClaim := { program := "ytoaknfoobjnjgaagreat", sum := "3c685b8ce75d22176733b8467522b520537453be592fc01865c68de759fbd175", func := "transit/transitlaw34.LiveIdle", spec := "liveIdle", unfollowed := true, recurses := true, plainKeys := false, apart := false }
def LiveIdleSaid : Prop := liveIdleRow.holds Tryz.pinned (OpenSpec.ofChange liveIdleSpec)

/-- ITS FALSE NEIGHBOUR: 'it returns false'. Refute it at one input. -/
def liveIdleWrong : ChangeSpec := { name := "liveIdle", fn := fun _ => fun
  | [d1, d2] => { results := [.lit (.bool false)], args := [d1, d2] }
  | _ => none }
def LiveIdleWrongFalsely : Prop := liveIdleRow.holds Tryz.pinned (OpenSpec.ofChange liveIdleWrong)

/-- 'transitlaw34.LiveClones': WHATEVER THE INPUT: true; the input reads as it did. -/
def liveClonesSpec : ChangeSpec := { name := "liveClones", fn := fun _ => fun
  | [d1, d2, d3] => { results := [.lit (.bool true)], args := [d1, d2, d3] }
  | _ => none }
def liveClonesRow : OpenClaim := { program := "ytoaknfoobjnjgaagreat", sum := "3c685b8ce75d22176733b8467522b520537453be592fc01865c68de759fbd175", func := "transit/transitlaw34.LiveClones", spec := "liveClones", unfollowed := true, recurses := true, plainKeys := false, apart := false }
def LiveClonesSaid : Prop := liveClonesRow.holds Tryz.pinned (OpenSpec.ofChange liveClonesSpec)

/-- ITS FALSE NEIGHBOUR: 'it returns false'. Refute it at one input. -/
def liveClonesWrong : ChangeSpec := { name := "liveClones", fn := fun _ => fun
  | [d1, d2, d3] => { results := [.lit (.bool false)], args := [d1, d2, d3] }
  | _ => none }
def LiveClonesWrongFalsely : Prop := liveClonesRow.holds Tryz.pinned (OpenSpec.ofChange liveClonesWrong)

/- THE SECOND FORM. 'bulk': how many values and letters a reading holds, each counted each time it is reached (what is shared counts as often as it is met; a slice's spare places count too). A statement '..UptoSaid' is the law's where the arguments, and the package variables that the reading takes, are together of bulk at most 1048576: NARROWER than '..Said'. Prove '..Said' where nothing that the law and all that it calls make is longer than what came in: it says more and counts as full. Else prove '..UptoSaid'. A law counts once. -/
mutual
def uptoBulk {H : Type} : DataW H → Nat
  | .lit (.string bytes) => bytes.length + 1
  | .lit _ => 1
  | .nil => 1
  | .ptr d => uptoBulk d + 1
  | .slice elems spare => uptoBulkAll elems + uptoBulkAll spare + 1
  | .agg parts => uptoBulkAll parts + 1
  | .iface _ d => uptoBulk d + 1
  | .map entries => uptoBulkEntries entries + 1
  | .held _ => 1
def uptoBulkAll {H : Type} : List (DataW H) → Nat
  | [] => 0
  | d :: r => uptoBulk d + uptoBulkAll r
def uptoBulkEntries {H : Type} : List (Lit × DataW H) → Nat
  | [] => 0
  | x :: r => uptoBulkEntry x + uptoBulkEntries r
def uptoBulkEntry {H : Type} : Lit × DataW H → Nat
  | (.string bytes, d) => bytes.length + uptoBulk d + 1
  | (_, d) => uptoBulk d + 1
 end
def uptoSmall : (H : Type) → List (DataW H) → Bool := fun _ ds => decide (uptoBulkAll ds ≤ 1048576)
def OpenSpec.upto (s : _root_.Go.ChangeSpec) : _root_.Go.OpenSpec := { _root_.Go.OpenSpec.ofChange s with cond := some uptoSmall }

/-- 'transitlaw34.LiveNews', WHERE WHAT IT READS IS OF BULK AT MOST 1048576: true; the input reads as it did. -/
def liveNewsUptoRow : OpenClaim := { program := "ytoaknfoobjnjgaagreat", sum := "3c685b8ce75d22176733b8467522b520537453be592fc01865c68de759fbd175", func := "transit/transitlaw34.LiveNews", spec := "liveNews", unfollowed := true, recurses := true, plainKeys := false, apart := false, narrowed := true }
def LiveNewsUptoSaid : Prop := liveNewsUptoRow.holds Tryz.pinned (OpenSpec.upto liveNewsSpec)

/-- 'transitlaw34.LivePlays', WHERE WHAT IT READS IS OF BULK AT MOST 1048576: true; the input reads as it did. -/
def livePlaysUptoRow : OpenClaim := { program := "ytoaknfoobjnjgaagreat", sum := "3c685b8ce75d22176733b8467522b520537453be592fc01865c68de759fbd175", func := "transit/transitlaw34.LivePlays", spec := "livePlays", unfollowed := true, recurses := true, plainKeys := false, apart := false, narrowed := true }
def LivePlaysUptoSaid : Prop := livePlaysUptoRow.holds Tryz.pinned (OpenSpec.upto livePlaysSpec)

/-- 'transitlaw34.LiveOrder', WHERE WHAT IT READS IS OF BULK AT MOST 1048576: true; the input reads as it did. -/
def liveOrderUptoRow : OpenClaim := { program := "ytoaknfoobjnjgaagreat", sum := "3c685b8ce75d22176733b8467522b520537453be592fc01865c68de759fbd175", func := "transit/transitlaw34.LiveOrder", spec := "liveOrder", unfollowed := true, recurses := true, plainKeys := false, apart := false, narrowed := true }
def LiveOrderUptoSaid : Prop := liveOrderUptoRow.holds Tryz.pinned (OpenSpec.upto liveOrderSpec)

/-- 'transitlaw34.LiveIdle', WHERE WHAT IT READS IS OF BULK AT MOST 1048576: true; the input reads as it did. -/
def liveIdleUptoRow : OpenClaim := { program := "ytoaknfoobjnjgaagreat", sum := "3c685b8ce75d22176733b8467522b520537453be592fc01865c68de759fbd175", func := "transit/transitlaw34.LiveIdle", spec := "liveIdle", unfollowed := true, recurses := true, plainKeys := false, apart := false, narrowed := true }
def LiveIdleUptoSaid : Prop := liveIdleUptoRow.holds Tryz.pinned (OpenSpec.upto liveIdleSpec)

/-- 'transitlaw34.LiveClones', WHERE WHAT IT READS IS OF BULK AT MOST 1048576: true; the input reads as it did. -/
def liveClonesUptoRow : OpenClaim := { program := "ytoaknfoobjnjgaagreat", sum := "3c685b8ce75d22176733b8467522b520537453be592fc01865c68de759fbd175", func := "transit/transitlaw34.LiveClones", spec := "liveClones", unfollowed := true, recurses := true, plainKeys := false, apart := false, narrowed := true }
def LiveClonesUptoSaid : Prop := liveClonesUptoRow.holds Tryz.pinned (OpenSpec.upto liveClonesSpec)

end Rows
end Go.Proofs.YtoaknfoobjnjgaaGreat
