/-
  No cell of these rows narrows 'for every input' (looked for: loops, veiled, ifaces, maps, wideKeys, modest, calm, conditions, laid).
  DERIVED. THE GIVEN ROWS OF THIS SEAT. 4 by the template 'for every input the law returns true; each argument reads behind the call as it read before'; 0 by the template 'total and deterministic' (their statements: YtnbhhepiekhbjaaGreatTotals.lean).
  GIVEN WITH THE SEED: the statements are not yours to turn. If you find one false, say at which input.
  Laid BY PROGRAM, IN A SANDBOX (cutbox-rows.mjs): the forced cells as the released guide's own fill.sh prints them over the translation 8664bd13aa3eaf05… (all of the seat's roots in one cut). By AI agents, Wed Nov 11 2026. No macro, syntax, notation, axiom, sorry.
-/
import Derived.Test.YtnbhhepiekhbjaaGreatChecked
import GoSem.Claim
import GoSem.ClaimJoined
import GoSem.ClaimMapViews
import Derived.JoinedTies
import Derived.KernelRfl
namespace Go.Proofs.YtnbhhepiekhbjaaGreat
/- THE CELL 'sum', in the pinned program and in every row, IS THE sha256 OF THE DUMP (.gsa) THAT YtnbhhepiekhbjaaGreatProg.lean LOADS. Nothing in Lean hashes anything: it is a label: what it is worth is what the hold of that sum in a sandbox is worth. -/
noncomputable def Tryz.pinned : Pinned := { name := "ytnbhhepiekhbjaagreat", sum := "8664bd13aa3eaf05d3ecf69aeafebbb39cc329158fbf0ea9def076217c868bf2", checked := Tryz.checked }
namespace Rows
def none {H : Type} : Left H := { results := [], args := [] }

/-- 'transitlaw24.LintWarns': WHATEVER THE INPUT: true; the input reads as it did. -/
def lintWarnsSpec : ChangeSpec := { name := "lintWarns", fn := fun _ => fun
  | [d] => { results := [.lit (.bool true)], args := [d] }
  | _ => none }
def lintWarnsRow : OpenClaim := { program := "ytnbhhepiekhbjaagreat", sum := "8664bd13aa3eaf05d3ecf69aeafebbb39cc329158fbf0ea9def076217c868bf2", func := "transit/transitlaw24.LintWarns", spec := "lintWarns", unfollowed := true, recurses := true, plainKeys := false, apart := false }
def LintWarnsSaid : Prop := lintWarnsRow.holds Tryz.pinned (OpenSpec.ofChange lintWarnsSpec)

/-- ITS FALSE NEIGHBOUR: 'it returns false'. Refute it at one input. -/
def lintWarnsWrong : ChangeSpec := { name := "lintWarns", fn := fun _ => fun
  | [d] => { results := [.lit (.bool false)], args := [d] }
  | _ => none }
def LintWarnsWrongFalsely : Prop := lintWarnsRow.holds Tryz.pinned (OpenSpec.ofChange lintWarnsWrong)

/-- 'transitlaw24.LintSound': WHATEVER THE INPUT: true; the input reads as it did. -/
def lintSoundSpec : ChangeSpec := { name := "lintSound", fn := fun _ => fun
  | [d] => { results := [.lit (.bool true)], args := [d] }
  | _ => none }
def lintSoundRow : OpenClaim := { program := "ytnbhhepiekhbjaagreat", sum := "8664bd13aa3eaf05d3ecf69aeafebbb39cc329158fbf0ea9def076217c868bf2", func := "transit/transitlaw24.LintSound", spec := "lintSound", unfollowed := true, recurses := true, plainKeys := false, apart := false }
def LintSoundSaid : Prop := lintSoundRow.holds Tryz.pinned (OpenSpec.ofChange lintSoundSpec)

/-- ITS FALSE NEIGHBOUR: 'it returns false'. Refute it at one input. -/
def lintSoundWrong : ChangeSpec := { name := "lintSound", fn := fun _ => fun
  | [d] => { results := [.lit (.bool false)], args := [d] }
  | _ => none }
def LintSoundWrongFalsely : Prop := lintSoundRow.holds Tryz.pinned (OpenSpec.ofChange lintSoundWrong)

/-- 'transitlaw24.LintFewer': WHATEVER THE INPUT: true; the input reads as it did. -/
def lintFewerSpec : ChangeSpec := { name := "lintFewer", fn := fun _ => fun
  | [d] => { results := [.lit (.bool true)], args := [d] }
  | _ => none }
def lintFewerRow : OpenClaim := { program := "ytnbhhepiekhbjaagreat", sum := "8664bd13aa3eaf05d3ecf69aeafebbb39cc329158fbf0ea9def076217c868bf2", func := "transit/transitlaw24.LintFewer", spec := "lintFewer", unfollowed := true, recurses := true, plainKeys := false, apart := false }
def LintFewerSaid : Prop := lintFewerRow.holds Tryz.pinned (OpenSpec.ofChange lintFewerSpec)

/-- ITS FALSE NEIGHBOUR: 'it returns false'. Refute it at one input. -/
def lintFewerWrong : ChangeSpec := { name := "lintFewer", fn := fun _ => fun
  | [d] => { results := [.lit (.bool false)], args := [d] }
  | _ => none }
def LintFewerWrongFalsely : Prop := lintFewerRow.holds Tryz.pinned (OpenSpec.ofChange lintFewerWrong)

/-- 'transitlaw24.LintOvertakes': WHATEVER THE INPUT: true; the input reads as it did. -/
def lintOvertakesSpec : ChangeSpec := { name := "lintOvertakes", fn := fun _ => fun
  | [d] => { results := [.lit (.bool true)], args := [d] }
  | _ => none }
def lintOvertakesRow : OpenClaim := { program := "ytnbhhepiekhbjaagreat", sum := "8664bd13aa3eaf05d3ecf69aeafebbb39cc329158fbf0ea9def076217c868bf2", func := "transit/transitlaw24.LintOvertakes", spec := "lintOvertakes", unfollowed := true, recurses := true, plainKeys := false, apart := false }
def LintOvertakesSaid : Prop := lintOvertakesRow.holds Tryz.pinned (OpenSpec.ofChange lintOvertakesSpec)

/-- ITS FALSE NEIGHBOUR: 'it returns false'. Refute it at one input. -/
def lintOvertakesWrong : ChangeSpec := { name := "lintOvertakes", fn := fun _ => fun
  | [d] => { results := [.lit (.bool false)], args := [d] }
  | _ => none }
def LintOvertakesWrongFalsely : Prop := lintOvertakesRow.holds Tryz.pinned (OpenSpec.ofChange lintOvertakesWrong)

/- THE SECOND FORM. 'bulk': how many values and letters a reading holds, each counted each time it is reached (what is shared counts as often as it is met; a slice's spare places count too). A statement '..UptoSaid' is the law's where the arguments, and the package variables that the reading takes, are together of bulk at most 1048576: NARROWER than '..Said'. Prove '..Said' where nothing that the law and all that it calls make is longer than what came in: it says more and counts as full. Else prove '..UptoSaid'. A law counts once. -/
mutual
def uptoBulk {H : Type} : DataW H → Nat
  | .lit (.string bytes) => bytes.length + 1
  | .lit _ => 1
  | .nil => 1
  | .ptr d => uptoBulk d + 1
  | .slice elems spare => uptoBulkAll elems + uptoBulkAll spare + 1
  | .agg parts => uptoBulkAll parts + 1
  | .iface _ d => uptoBulk d + 1
  | .map entries => uptoBulkEntries entries + 1
  | .held _ => 1
def uptoBulkAll {H : Type} : List (DataW H) → Nat
  | [] => 0
  | d :: r => uptoBulk d + uptoBulkAll r
def uptoBulkEntries {H : Type} : List (Lit × DataW H) → Nat
  | [] => 0
  | x :: r => uptoBulkEntry x + uptoBulkEntries r
def uptoBulkEntry {H : Type} : Lit × DataW H → Nat
  | (.string bytes, d) => bytes.length + uptoBulk d + 1
  | (_, d) => uptoBulk d + 1
 end
def uptoSmall : (H : Type) → List (DataW H) → Bool := fun _ ds => decide (uptoBulkAll ds ≤ 1048576)
def OpenSpec.upto (s : _root_.Go.ChangeSpec) : _root_.Go.OpenSpec := { _root_.Go.OpenSpec.ofChange s with cond := some uptoSmall }

/-- 'transitlaw24.LintWarns', WHERE WHAT IT READS IS OF BULK AT MOST 1048576: true; the input reads as it did. -/
def lintWarnsUptoRow : OpenClaim := { program := "ytnbhhepiekhbjaagreat", sum := "8664bd13aa3eaf05d3ecf69aeafebbb39cc329158fbf0ea9def076217c868bf2", func := "transit/transitlaw24.LintWarns", spec := "lintWarns", unfollowed := true, recurses := true, plainKeys := false, apart := false, narrowed := true }
def LintWarnsUptoSaid : Prop := lintWarnsUptoRow.holds Tryz.pinned (OpenSpec.upto lintWarnsSpec)

/-- 'transitlaw24.LintSound', WHERE WHAT IT READS IS OF BULK AT MOST 1048576: true; the input reads as it did. -/
def lintSoundUptoRow : OpenClaim := { program := "ytnbhhepiekhbjaagreat", sum := "8664bd13aa3eaf05d3ecf69aeafebbb39cc329158fbf0ea9def076217c868bf2", func := "transit/transitlaw24.LintSound", spec := "lintSound", unfollowed := true, recurses := true, plainKeys := false, apart := false, narrowed := true }
def LintSoundUptoSaid : Prop := lintSoundUptoRow.holds Tryz.pinned (OpenSpec.upto lintSoundSpec)

/-- 'transitlaw24.LintFewer', WHERE WHAT IT READS IS OF BULK AT MOST 1048576: true; the input reads as it did. -/
def lintFewerUptoRow : OpenClaim := { program := "ytnbhhepiekhbjaagreat", sum := "8664bd13aa3eaf05d3ecf69aeafebbb39cc329158fbf0ea9def076217c868bf2", func := "transit/transitlaw24.LintFewer", spec := "lintFewer", unfollowed := true, recurses := true, plainKeys := false, apart := false, narrowed := true }
def LintFewerUptoSaid : Prop := lintFewerUptoRow.holds Tryz.pinned (OpenSpec.upto lintFewerSpec)

/-- 'transitlaw24.LintOvertakes', WHERE WHAT IT READS IS OF BULK AT MOST 1048576: true; the input reads as it did. -/
def lintOvertakesUptoRow : OpenClaim := { program := "ytnbhhepiekhbjaagreat", sum := "8664bd13aa3eaf05d3ecf69aeafebbb39cc329158fbf0ea9def076217c868bf2", func := "transit/transitlaw24.LintOvertakes", spec := "lintOvertakes", unfollowed := true, recurses := true, plainKeys := false, apart := false, narrowed := true }
def LintOvertakesUptoSaid : Prop := lintOvertakesUptoRow.holds Tryz.pinned (OpenSpec.upto lintOvertakesSpec)

end Rows
end Go.Proofs.YtnbhhepiekhbjaaGreat
