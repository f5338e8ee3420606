/- Functions of the program as plain Lean functions, printed by a program of the author. -/
import Derived.Test.YtnbhhepiekhbjaaGreatSh1
set_option linter.unusedVariables false
namespace Go.Ab
def lint_Warnings_L1 (L : Lps) (rec83 : PV ×
 List PV ×
 List PV × Int × Int × List PV × List PV × List PV × List PV × List PV × List PV × List PV × List PV × Unit →
 Option PV) : (PV ×
 List PV ×
 Int ×
 List PV ×
 Int ×
 Int ×
 List PV ×
 Int ×
 Int ×
 PV ×
 PV ×
 PV ×
 PV × PV × List PV × List PV × List PV × List PV × List PV × List PV × List PV × List PV × Unit) → (PV ×
 List PV ×
 Int ×
 List PV ×
 Int ×
 Int ×
 List PV ×
 Int ×
 Int ×
 PV ×
 PV ×
 PV ×
 PV ×
 PV × List PV × List PV × List PV × List PV × List PV × List PV × List PV × List PV × Unit →
 Option PV) → Option PV := fun s86 rec87 =>
 if decide (s86.2.2.2.2.2.2.2.2.1 < s86.2.2.2.2.2.2.2.1) = true then
 (idxP s86.2.2.2.2.2.2.1 s86.2.2.2.2.2.2.2.2.1).bind fun p88 =>
 (bif s86.2.2.1 != s86.2.2.2.2.2.2.2.2.1 then
 (Ab.asInt .i64 s86.2.2.2.2.2.2.2.2.2.2.2.1).bind fun n89 =>
 (Ab.asInt .i64 (cell p88 2)).bind fun n90 => some (n89 == n90)
 else some false).bind
 fun r91 =>
 (bif r91 then
 (lint_overtaking_1_M [PV.int .i64 s86.2.2.1, PV.rp [s86.2.1.getD 0 .bad]]).bind
 fun r92 => (Ab.asBool r92).bind fun b93 => some b93
 else some false).bind
 fun r94 =>
 (bif r94 then
 (lint_overtaking_1_M
 [PV.int .i64 s86.2.2.2.2.2.2.2.2.1,
 PV.rp [s86.2.1.getD 0 .bad]]).bind
 fun r95 => (Ab.asBool r95).bind fun b96 => some b96
 else some false).bind
 fun r97 =>
 (bif r97 then
 (trip_Overtakes_M
 [PV.agg
 [s86.2.2.2.2.2.2.2.2.2.1, s86.2.2.2.2.2.2.2.2.2.2.1,
 s86.2.2.2.2.2.2.2.2.2.2.2.1,
 s86.2.2.2.2.2.2.2.2.2.2.2.2.1,
 s86.2.2.2.2.2.2.2.2.2.2.2.2.2.1],
 PV.agg [cell p88 0, cell p88 1, cell p88 2, cell p88 3, cell p88 4]]).bind
 fun r98 => (Ab.asBool r98).bind fun b99 => some b99
 else some false).bind
 fun r100 =>
 bif sameB true r100 then
 (bif
 (↑s86.2.2.2.2.2.2.2.2.2.2.2.2.2.2.2.2.2.2.2.2.2.1.length :
 Int) ==
 0 then
 some true
 else
 if
 inRange
 (IntKind.i64.wrap
 ((↑s86.2.2.2.2.2.2.2.2.2.2.2.2.2.2.2.2.2.2.2.2.2.1.length :
 Int) -
 1))
 s86.2.2.2.2.2.2.2.2.2.2.2.2.2.2.2.2.2.2.2.2.2.1.length then
 s86.2.2.2.2.2.2.2.2.2.2.2.2.2.2.2.2.2.2.2.2.2.1[(IntKind.i64.wrap
 ((↑s86.2.2.2.2.2.2.2.2.2.2.2.2.2.2.2.2.2.2.2.2.2.1.length :
 Int) -
 1)).toNat]?.bind
 fun e101 =>
 if
 chk
 (Kd.int IntKind.i64 ::
 [].append (Kd.int IntKind.i64 :: [].append (Kd.int IntKind.i64 :: [].append [])))
 [cell e101 0, cell e101 1, cell e101 2] =
 true ∧
 chk
 (Kd.int IntKind.i64 ::
 [].append (Kd.int IntKind.i64 :: [].append (Kd.int IntKind.i64 :: [].append [])))
 [PV.int .i64 5, PV.int .i64 s86.2.2.1,
 PV.int .i64 s86.2.2.2.2.2.2.2.2.1] =
 true then
 some
 !peqL [cell e101 0, cell e101 1, cell e101 2]
 [PV.int .i64 5, PV.int .i64 s86.2.2.1,
 PV.int .i64 s86.2.2.2.2.2.2.2.2.1]
 else none
 else none).bind
 fun r102 =>
 if r102 = true then
 if
 (s86.2.2.2.2.2.2.2.2.2.2.2.2.2.2.2.2.2.2.2.2.2.1 ++
 [PV.agg
 [PV.int .i64 5, PV.int .i64 s86.2.2.1,
 PV.int .i64 s86.2.2.2.2.2.2.2.2.1]]).length *
 24 ≤
 roomBound ∧
 0 < 24 then
 rec87
 (PV.agg
 [cell s86.1 0, cell s86.1 1, cell s86.1 2, cell s86.1 3, cell s86.1 4,
 cell s86.1 5, cell s86.1 6, cell s86.1 7, cell s86.1 8, cell s86.1 9,
 cell s86.1 10, cell s86.1 11, cell s86.1 12],
 [s86.2.1.getD 0 .bad], s86.2.2.1, s86.2.2.2.1, s86.2.2.2.2.1,
 s86.2.2.2.2.2.1, s86.2.2.2.2.2.2.1,
 s86.2.2.2.2.2.2.2.1,
 IntKind.i64.wrap (s86.2.2.2.2.2.2.2.2.1 + 1),
 s86.2.2.2.2.2.2.2.2.2.1, s86.2.2.2.2.2.2.2.2.2.2.1,
 s86.2.2.2.2.2.2.2.2.2.2.2.1,
 s86.2.2.2.2.2.2.2.2.2.2.2.2.1,
 s86.2.2.2.2.2.2.2.2.2.2.2.2.2.1,
 [s86.2.2.2.2.2.2.2.2.2.2.2.2.2.2.1.getD 0 .bad,
 s86.2.2.2.2.2.2.2.2.2.2.2.2.2.2.1.getD 1 .bad,
 s86.2.2.2.2.2.2.2.2.2.2.2.2.2.2.1.getD 2 .bad],
 [s86.2.2.2.2.2.2.2.2.2.2.2.2.2.2.2.1.getD 0 .bad,
 s86.2.2.2.2.2.2.2.2.2.2.2.2.2.2.2.1.getD 1 .bad,
 s86.2.2.2.2.2.2.2.2.2.2.2.2.2.2.2.1.getD 2 .bad],
 [s86.2.2.2.2.2.2.2.2.2.2.2.2.2.2.2.2.1.getD 0 .bad,
 s86.2.2.2.2.2.2.2.2.2.2.2.2.2.2.2.2.1.getD 1 .bad,
 s86.2.2.2.2.2.2.2.2.2.2.2.2.2.2.2.2.1.getD 2 .bad],
 [s86.2.2.2.2.2.2.2.2.2.2.2.2.2.2.2.2.2.1.getD 0 .bad,
 s86.2.2.2.2.2.2.2.2.2.2.2.2.2.2.2.2.2.1.getD 1 .bad,
 s86.2.2.2.2.2.2.2.2.2.2.2.2.2.2.2.2.2.1.getD 2 .bad],
 [s86.2.2.2.2.2.2.2.2.2.2.2.2.2.2.2.2.2.2.1.getD 0 .bad,
 s86.2.2.2.2.2.2.2.2.2.2.2.2.2.2.2.2.2.2.1.getD 1 .bad,
 s86.2.2.2.2.2.2.2.2.2.2.2.2.2.2.2.2.2.2.1.getD 2 .bad,
 s86.2.2.2.2.2.2.2.2.2.2.2.2.2.2.2.2.2.2.1.getD 3 .bad,
 s86.2.2.2.2.2.2.2.2.2.2.2.2.2.2.2.2.2.2.1.getD 4 .bad,
 s86.2.2.2.2.2.2.2.2.2.2.2.2.2.2.2.2.2.2.1.getD 5 .bad,
 s86.2.2.2.2.2.2.2.2.2.2.2.2.2.2.2.2.2.2.1.getD 6 .bad,
 s86.2.2.2.2.2.2.2.2.2.2.2.2.2.2.2.2.2.2.1.getD 7 .bad,
 s86.2.2.2.2.2.2.2.2.2.2.2.2.2.2.2.2.2.2.1.getD 8 .bad,
 s86.2.2.2.2.2.2.2.2.2.2.2.2.2.2.2.2.2.2.1.getD 9 .bad,
 s86.2.2.2.2.2.2.2.2.2.2.2.2.2.2.2.2.2.2.1.getD 10
 .bad,
 s86.2.2.2.2.2.2.2.2.2.2.2.2.2.2.2.2.2.2.1.getD 11
 .bad,
 s86.2.2.2.2.2.2.2.2.2.2.2.2.2.2.2.2.2.2.1.getD 12
 .bad,
 s86.2.2.2.2.2.2.2.2.2.2.2.2.2.2.2.2.2.2.1.getD 13
 .bad],
 [s86.2.2.2.2.2.2.2.2.2.2.2.2.2.2.2.2.2.2.2.1.getD 0
 .bad,
 s86.2.2.2.2.2.2.2.2.2.2.2.2.2.2.2.2.2.2.2.1.getD 1
 .bad,
 s86.2.2.2.2.2.2.2.2.2.2.2.2.2.2.2.2.2.2.2.1.getD 2
 .bad],
 [s86.2.2.2.2.2.2.2.2.2.2.2.2.2.2.2.2.2.2.2.2.1.getD 0
 .bad,
 s86.2.2.2.2.2.2.2.2.2.2.2.2.2.2.2.2.2.2.2.2.1.getD 1
 .bad,
 s86.2.2.2.2.2.2.2.2.2.2.2.2.2.2.2.2.2.2.2.2.1.getD 2
 .bad],
 s86.2.2.2.2.2.2.2.2.2.2.2.2.2.2.2.2.2.2.2.2.2.1 ++
 [PV.agg
 [PV.int .i64 5, PV.int .i64 s86.2.2.1,
 PV.int .i64 s86.2.2.2.2.2.2.2.2.1]],
 ())
 else none
 else
 rec87
 (PV.agg
 [cell s86.1 0, cell s86.1 1, cell s86.1 2, cell s86.1 3, cell s86.1 4, cell s86.1 5,
 cell s86.1 6, cell s86.1 7, cell s86.1 8, cell s86.1 9, cell s86.1 10,
 cell s86.1 11, cell s86.1 12],
 [s86.2.1.getD 0 .bad], s86.2.2.1, s86.2.2.2.1, s86.2.2.2.2.1,
 s86.2.2.2.2.2.1, s86.2.2.2.2.2.2.1, s86.2.2.2.2.2.2.2.1,
 IntKind.i64.wrap (s86.2.2.2.2.2.2.2.2.1 + 1),
 s86.2.2.2.2.2.2.2.2.2.1, s86.2.2.2.2.2.2.2.2.2.2.1,
 s86.2.2.2.2.2.2.2.2.2.2.2.1,
 s86.2.2.2.2.2.2.2.2.2.2.2.2.1,
 s86.2.2.2.2.2.2.2.2.2.2.2.2.2.1,
 [s86.2.2.2.2.2.2.2.2.2.2.2.2.2.2.1.getD 0 .bad,
 s86.2.2.2.2.2.2.2.2.2.2.2.2.2.2.1.getD 1 .bad,
 s86.2.2.2.2.2.2.2.2.2.2.2.2.2.2.1.getD 2 .bad],
 [s86.2.2.2.2.2.2.2.2.2.2.2.2.2.2.2.1.getD 0 .bad,
 s86.2.2.2.2.2.2.2.2.2.2.2.2.2.2.2.1.getD 1 .bad,
 s86.2.2.2.2.2.2.2.2.2.2.2.2.2.2.2.1.getD 2 .bad],
 [s86.2.2.2.2.2.2.2.2.2.2.2.2.2.2.2.2.1.getD 0 .bad,
 s86.2.2.2.2.2.2.2.2.2.2.2.2.2.2.2.2.1.getD 1 .bad,
 s86.2.2.2.2.2.2.2.2.2.2.2.2.2.2.2.2.1.getD 2 .bad],
 [s86.2.2.2.2.2.2.2.2.2.2.2.2.2.2.2.2.2.1.getD 0 .bad,
 s86.2.2.2.2.2.2.2.2.2.2.2.2.2.2.2.2.2.1.getD 1 .bad,
 s86.2.2.2.2.2.2.2.2.2.2.2.2.2.2.2.2.2.1.getD 2 .bad],
 [s86.2.2.2.2.2.2.2.2.2.2.2.2.2.2.2.2.2.2.1.getD 0 .bad,
 s86.2.2.2.2.2.2.2.2.2.2.2.2.2.2.2.2.2.2.1.getD 1 .bad,
 s86.2.2.2.2.2.2.2.2.2.2.2.2.2.2.2.2.2.2.1.getD 2 .bad,
 s86.2.2.2.2.2.2.2.2.2.2.2.2.2.2.2.2.2.2.1.getD 3 .bad,
 s86.2.2.2.2.2.2.2.2.2.2.2.2.2.2.2.2.2.2.1.getD 4 .bad,
 s86.2.2.2.2.2.2.2.2.2.2.2.2.2.2.2.2.2.2.1.getD 5 .bad,
 s86.2.2.2.2.2.2.2.2.2.2.2.2.2.2.2.2.2.2.1.getD 6 .bad,
 s86.2.2.2.2.2.2.2.2.2.2.2.2.2.2.2.2.2.2.1.getD 7 .bad,
 s86.2.2.2.2.2.2.2.2.2.2.2.2.2.2.2.2.2.2.1.getD 8 .bad,
 s86.2.2.2.2.2.2.2.2.2.2.2.2.2.2.2.2.2.2.1.getD 9 .bad,
 s86.2.2.2.2.2.2.2.2.2.2.2.2.2.2.2.2.2.2.1.getD 10 .bad,
 s86.2.2.2.2.2.2.2.2.2.2.2.2.2.2.2.2.2.2.1.getD 11 .bad,
 s86.2.2.2.2.2.2.2.2.2.2.2.2.2.2.2.2.2.2.1.getD 12 .bad,
 s86.2.2.2.2.2.2.2.2.2.2.2.2.2.2.2.2.2.2.1.getD 13 .bad],
 [s86.2.2.2.2.2.2.2.2.2.2.2.2.2.2.2.2.2.2.2.1.getD 0
 .bad,
 s86.2.2.2.2.2.2.2.2.2.2.2.2.2.2.2.2.2.2.2.1.getD 1
 .bad,
 s86.2.2.2.2.2.2.2.2.2.2.2.2.2.2.2.2.2.2.2.1.getD 2
 .bad],
 [s86.2.2.2.2.2.2.2.2.2.2.2.2.2.2.2.2.2.2.2.2.1.getD 0
 .bad,
 s86.2.2.2.2.2.2.2.2.2.2.2.2.2.2.2.2.2.2.2.2.1.getD 1
 .bad,
 s86.2.2.2.2.2.2.2.2.2.2.2.2.2.2.2.2.2.2.2.2.1.getD 2
 .bad],
 s86.2.2.2.2.2.2.2.2.2.2.2.2.2.2.2.2.2.2.2.2.2.1, ())
 else
 rec87
 (PV.agg
 [cell s86.1 0, cell s86.1 1, cell s86.1 2, cell s86.1 3, cell s86.1 4, cell s86.1 5,
 cell s86.1 6, cell s86.1 7, cell s86.1 8, cell s86.1 9, cell s86.1 10, cell s86.1 11,
 cell s86.1 12],
 [s86.2.1.getD 0 .bad], s86.2.2.1, s86.2.2.2.1, s86.2.2.2.2.1,
 s86.2.2.2.2.2.1, s86.2.2.2.2.2.2.1, s86.2.2.2.2.2.2.2.1,
 IntKind.i64.wrap (s86.2.2.2.2.2.2.2.2.1 + 1),
 s86.2.2.2.2.2.2.2.2.2.1, s86.2.2.2.2.2.2.2.2.2.2.1,
 s86.2.2.2.2.2.2.2.2.2.2.2.1,
 s86.2.2.2.2.2.2.2.2.2.2.2.2.1,
 s86.2.2.2.2.2.2.2.2.2.2.2.2.2.1,
 [s86.2.2.2.2.2.2.2.2.2.2.2.2.2.2.1.getD 0 .bad,
 s86.2.2.2.2.2.2.2.2.2.2.2.2.2.2.1.getD 1 .bad,
 s86.2.2.2.2.2.2.2.2.2.2.2.2.2.2.1.getD 2 .bad],
 [s86.2.2.2.2.2.2.2.2.2.2.2.2.2.2.2.1.getD 0 .bad,
 s86.2.2.2.2.2.2.2.2.2.2.2.2.2.2.2.1.getD 1 .bad,
 s86.2.2.2.2.2.2.2.2.2.2.2.2.2.2.2.1.getD 2 .bad],
 [s86.2.2.2.2.2.2.2.2.2.2.2.2.2.2.2.2.1.getD 0 .bad,
 s86.2.2.2.2.2.2.2.2.2.2.2.2.2.2.2.2.1.getD 1 .bad,
 s86.2.2.2.2.2.2.2.2.2.2.2.2.2.2.2.2.1.getD 2 .bad],
 [s86.2.2.2.2.2.2.2.2.2.2.2.2.2.2.2.2.2.1.getD 0 .bad,
 s86.2.2.2.2.2.2.2.2.2.2.2.2.2.2.2.2.2.1.getD 1 .bad,
 s86.2.2.2.2.2.2.2.2.2.2.2.2.2.2.2.2.2.1.getD 2 .bad],
 [s86.2.2.2.2.2.2.2.2.2.2.2.2.2.2.2.2.2.2.1.getD 0 .bad,
 s86.2.2.2.2.2.2.2.2.2.2.2.2.2.2.2.2.2.2.1.getD 1 .bad,
 s86.2.2.2.2.2.2.2.2.2.2.2.2.2.2.2.2.2.2.1.getD 2 .bad,
 s86.2.2.2.2.2.2.2.2.2.2.2.2.2.2.2.2.2.2.1.getD 3 .bad,
 s86.2.2.2.2.2.2.2.2.2.2.2.2.2.2.2.2.2.2.1.getD 4 .bad,
 s86.2.2.2.2.2.2.2.2.2.2.2.2.2.2.2.2.2.2.1.getD 5 .bad,
 s86.2.2.2.2.2.2.2.2.2.2.2.2.2.2.2.2.2.2.1.getD 6 .bad,
 s86.2.2.2.2.2.2.2.2.2.2.2.2.2.2.2.2.2.2.1.getD 7 .bad,
 s86.2.2.2.2.2.2.2.2.2.2.2.2.2.2.2.2.2.2.1.getD 8 .bad,
 s86.2.2.2.2.2.2.2.2.2.2.2.2.2.2.2.2.2.2.1.getD 9 .bad,
 s86.2.2.2.2.2.2.2.2.2.2.2.2.2.2.2.2.2.2.1.getD 10 .bad,
 s86.2.2.2.2.2.2.2.2.2.2.2.2.2.2.2.2.2.2.1.getD 11 .bad,
 s86.2.2.2.2.2.2.2.2.2.2.2.2.2.2.2.2.2.2.1.getD 12 .bad,
 s86.2.2.2.2.2.2.2.2.2.2.2.2.2.2.2.2.2.2.1.getD 13 .bad],
 [s86.2.2.2.2.2.2.2.2.2.2.2.2.2.2.2.2.2.2.2.1.getD 0 .bad,
 s86.2.2.2.2.2.2.2.2.2.2.2.2.2.2.2.2.2.2.2.1.getD 1 .bad,
 s86.2.2.2.2.2.2.2.2.2.2.2.2.2.2.2.2.2.2.2.1.getD 2 .bad],
 [s86.2.2.2.2.2.2.2.2.2.2.2.2.2.2.2.2.2.2.2.2.1.getD 0
 .bad,
 s86.2.2.2.2.2.2.2.2.2.2.2.2.2.2.2.2.2.2.2.2.1.getD 1
 .bad,
 s86.2.2.2.2.2.2.2.2.2.2.2.2.2.2.2.2.2.2.2.2.1.getD 2
 .bad],
 s86.2.2.2.2.2.2.2.2.2.2.2.2.2.2.2.2.2.2.2.2.2.1, ())
else
 rec83
 (PV.agg
 [cell s86.1 0, cell s86.1 1, cell s86.1 2, cell s86.1 3, cell s86.1 4, cell s86.1 5, cell s86.1 6,
 cell s86.1 7, cell s86.1 8, cell s86.1 9, cell s86.1 10, cell s86.1 11, cell s86.1 12],
 [s86.2.1.getD 0 .bad], s86.2.2.2.1, s86.2.2.2.2.1,
 IntKind.i64.wrap (s86.2.2.2.2.2.1 + 1),
 [s86.2.2.2.2.2.2.2.2.2.2.2.2.2.2.1.getD 0 .bad,
 s86.2.2.2.2.2.2.2.2.2.2.2.2.2.2.1.getD 1 .bad,
 s86.2.2.2.2.2.2.2.2.2.2.2.2.2.2.1.getD 2 .bad],
 [s86.2.2.2.2.2.2.2.2.2.2.2.2.2.2.2.1.getD 0 .bad,
 s86.2.2.2.2.2.2.2.2.2.2.2.2.2.2.2.1.getD 1 .bad,
 s86.2.2.2.2.2.2.2.2.2.2.2.2.2.2.2.1.getD 2 .bad],
 [s86.2.2.2.2.2.2.2.2.2.2.2.2.2.2.2.2.1.getD 0 .bad,
 s86.2.2.2.2.2.2.2.2.2.2.2.2.2.2.2.2.1.getD 1 .bad,
 s86.2.2.2.2.2.2.2.2.2.2.2.2.2.2.2.2.1.getD 2 .bad],
 [s86.2.2.2.2.2.2.2.2.2.2.2.2.2.2.2.2.2.1.getD 0 .bad,
 s86.2.2.2.2.2.2.2.2.2.2.2.2.2.2.2.2.2.1.getD 1 .bad,
 s86.2.2.2.2.2.2.2.2.2.2.2.2.2.2.2.2.2.1.getD 2 .bad],
 [s86.2.2.2.2.2.2.2.2.2.2.2.2.2.2.2.2.2.2.1.getD 0 .bad,
 s86.2.2.2.2.2.2.2.2.2.2.2.2.2.2.2.2.2.2.1.getD 1 .bad,
 s86.2.2.2.2.2.2.2.2.2.2.2.2.2.2.2.2.2.2.1.getD 2 .bad,
 s86.2.2.2.2.2.2.2.2.2.2.2.2.2.2.2.2.2.2.1.getD 3 .bad,
 s86.2.2.2.2.2.2.2.2.2.2.2.2.2.2.2.2.2.2.1.getD 4 .bad,
 s86.2.2.2.2.2.2.2.2.2.2.2.2.2.2.2.2.2.2.1.getD 5 .bad,
 s86.2.2.2.2.2.2.2.2.2.2.2.2.2.2.2.2.2.2.1.getD 6 .bad,
 s86.2.2.2.2.2.2.2.2.2.2.2.2.2.2.2.2.2.2.1.getD 7 .bad,
 s86.2.2.2.2.2.2.2.2.2.2.2.2.2.2.2.2.2.2.1.getD 8 .bad,
 s86.2.2.2.2.2.2.2.2.2.2.2.2.2.2.2.2.2.2.1.getD 9 .bad,
 s86.2.2.2.2.2.2.2.2.2.2.2.2.2.2.2.2.2.2.1.getD 10 .bad,
 s86.2.2.2.2.2.2.2.2.2.2.2.2.2.2.2.2.2.2.1.getD 11 .bad,
 s86.2.2.2.2.2.2.2.2.2.2.2.2.2.2.2.2.2.2.1.getD 12 .bad,
 s86.2.2.2.2.2.2.2.2.2.2.2.2.2.2.2.2.2.2.1.getD 13 .bad],
 [s86.2.2.2.2.2.2.2.2.2.2.2.2.2.2.2.2.2.2.2.1.getD 0 .bad,
 s86.2.2.2.2.2.2.2.2.2.2.2.2.2.2.2.2.2.2.2.1.getD 1 .bad,
 s86.2.2.2.2.2.2.2.2.2.2.2.2.2.2.2.2.2.2.2.1.getD 2 .bad],
 [s86.2.2.2.2.2.2.2.2.2.2.2.2.2.2.2.2.2.2.2.2.1.getD 0 .bad,
 s86.2.2.2.2.2.2.2.2.2.2.2.2.2.2.2.2.2.2.2.2.1.getD 1 .bad,
 s86.2.2.2.2.2.2.2.2.2.2.2.2.2.2.2.2.2.2.2.2.1.getD 2 .bad],
 s86.2.2.2.2.2.2.2.2.2.2.2.2.2.2.2.2.2.2.2.2.2.1, ())
def lint_Warnings_L2 (L : Lps) : (PV × PV × Int × Int × List PV × List PV × List PV × List PV × List PV × List PV × List PV × List PV × Unit) → (PV × PV × Int × Int × List PV × List PV × List PV × List PV × List PV × List PV × List PV × List PV × Unit → Option PV) → Option PV := fun s116 rec117 =>
 if decide (s116.2.2.2.1 < s116.2.2.1) = true then
 mapCase 3 (cell s116.1 0)
 ((Ab.asInt .i64 (cell s116.2.1 0)).bind fun n118 =>
 (bif (↑s116.2.2.2.2.2.2.2.2.2.2.2.1.length : Int) == 0 then some true
 else
 if
 inRange (IntKind.i64.wrap ((↑s116.2.2.2.2.2.2.2.2.2.2.2.1.length : Int) - 1))
 s116.2.2.2.2.2.2.2.2.2.2.2.1.length then
 s116.2.2.2.2.2.2.2.2.2.2.2.1[(IntKind.i64.wrap
 ((↑s116.2.2.2.2.2.2.2.2.2.2.2.1.length : Int) - 1)).toNat]?.bind
 fun e119 =>
 if
 chk
 (Kd.int IntKind.i64 ::
 [].append (Kd.int IntKind.i64 :: [].append (Kd.int IntKind.i64 :: [].append [])))
 [cell e119 0, cell e119 1, cell e119 2] =
 true ∧
 chk
 (Kd.int IntKind.i64 ::
 [].append (Kd.int IntKind.i64 :: [].append (Kd.int IntKind.i64 :: [].append [])))
 [PV.int .i64 n118, PV.int .i64 s116.2.2.2.1, PV.int .i64 0] =
 true then
 some
 !peqL [cell e119 0, cell e119 1, cell e119 2]
 [PV.int .i64 n118, PV.int .i64 s116.2.2.2.1, PV.int .i64 0]
 else none
 else none).bind
 fun r120 =>
 if r120 = true then
 if
 (s116.2.2.2.2.2.2.2.2.2.2.2.1 ++
 [PV.agg
 [PV.int .i64 n118, PV.int .i64 s116.2.2.2.1,
 PV.int .i64 0]]).length *
 24 ≤
 roomBound ∧
 0 < 24 then
 rec117
 (PV.agg [cell s116.1 0], PV.agg [cell s116.2.1 0], s116.2.2.1,
 IntKind.i64.wrap (s116.2.2.2.1 + 1),
 [s116.2.2.2.2.1.getD 0 .bad, s116.2.2.2.2.1.getD 1 .bad,
 s116.2.2.2.2.1.getD 2 .bad],
 [s116.2.2.2.2.2.1.getD 0 .bad, s116.2.2.2.2.2.1.getD 1 .bad,
 s116.2.2.2.2.2.1.getD 2 .bad],
 [s116.2.2.2.2.2.2.1.getD 0 .bad, s116.2.2.2.2.2.2.1.getD 1 .bad,
 s116.2.2.2.2.2.2.1.getD 2 .bad],
 [s116.2.2.2.2.2.2.2.1.getD 0 .bad, s116.2.2.2.2.2.2.2.1.getD 1 .bad,
 s116.2.2.2.2.2.2.2.1.getD 2 .bad],
 [s116.2.2.2.2.2.2.2.2.1.getD 0 .bad,
 s116.2.2.2.2.2.2.2.2.1.getD 1 .bad,
 s116.2.2.2.2.2.2.2.2.1.getD 2 .bad,
 s116.2.2.2.2.2.2.2.2.1.getD 3 .bad,
 s116.2.2.2.2.2.2.2.2.1.getD 4 .bad,
 s116.2.2.2.2.2.2.2.2.1.getD 5 .bad,
 s116.2.2.2.2.2.2.2.2.1.getD 6 .bad,
 s116.2.2.2.2.2.2.2.2.1.getD 7 .bad,
 s116.2.2.2.2.2.2.2.2.1.getD 8 .bad,
 s116.2.2.2.2.2.2.2.2.1.getD 9 .bad,
 s116.2.2.2.2.2.2.2.2.1.getD 10 .bad,
 s116.2.2.2.2.2.2.2.2.1.getD 11 .bad,
 s116.2.2.2.2.2.2.2.2.1.getD 12 .bad,
 s116.2.2.2.2.2.2.2.2.1.getD 13 .bad],
 [s116.2.2.2.2.2.2.2.2.2.1.getD 0 .bad,
 s116.2.2.2.2.2.2.2.2.2.1.getD 1 .bad,
 s116.2.2.2.2.2.2.2.2.2.1.getD 2 .bad],
 [s116.2.2.2.2.2.2.2.2.2.2.1.getD 0 .bad,
 s116.2.2.2.2.2.2.2.2.2.2.1.getD 1 .bad,
 s116.2.2.2.2.2.2.2.2.2.2.1.getD 2 .bad],
 s116.2.2.2.2.2.2.2.2.2.2.2.1 ++
 [PV.agg [PV.int .i64 n118, PV.int .i64 s116.2.2.2.1, PV.int .i64 0]],
 ())
 else none
 else
 rec117
 (PV.agg [cell s116.1 0], PV.agg [cell s116.2.1 0], s116.2.2.1,
 IntKind.i64.wrap (s116.2.2.2.1 + 1),
 [s116.2.2.2.2.1.getD 0 .bad, s116.2.2.2.2.1.getD 1 .bad,
 s116.2.2.2.2.1.getD 2 .bad],
 [s116.2.2.2.2.2.1.getD 0 .bad, s116.2.2.2.2.2.1.getD 1 .bad,
 s116.2.2.2.2.2.1.getD 2 .bad],
 [s116.2.2.2.2.2.2.1.getD 0 .bad, s116.2.2.2.2.2.2.1.getD 1 .bad,
 s116.2.2.2.2.2.2.1.getD 2 .bad],
 [s116.2.2.2.2.2.2.2.1.getD 0 .bad, s116.2.2.2.2.2.2.2.1.getD 1 .bad,
 s116.2.2.2.2.2.2.2.1.getD 2 .bad],
 [s116.2.2.2.2.2.2.2.2.1.getD 0 .bad,
 s116.2.2.2.2.2.2.2.2.1.getD 1 .bad,
 s116.2.2.2.2.2.2.2.2.1.getD 2 .bad,
 s116.2.2.2.2.2.2.2.2.1.getD 3 .bad,
 s116.2.2.2.2.2.2.2.2.1.getD 4 .bad,
 s116.2.2.2.2.2.2.2.2.1.getD 5 .bad,
 s116.2.2.2.2.2.2.2.2.1.getD 6 .bad,
 s116.2.2.2.2.2.2.2.2.1.getD 7 .bad,
 s116.2.2.2.2.2.2.2.2.1.getD 8 .bad,
 s116.2.2.2.2.2.2.2.2.1.getD 9 .bad,
 s116.2.2.2.2.2.2.2.2.1.getD 10 .bad,
 s116.2.2.2.2.2.2.2.2.1.getD 11 .bad,
 s116.2.2.2.2.2.2.2.2.1.getD 12 .bad,
 s116.2.2.2.2.2.2.2.2.1.getD 13 .bad],
 [s116.2.2.2.2.2.2.2.2.2.1.getD 0 .bad,
 s116.2.2.2.2.2.2.2.2.2.1.getD 1 .bad,
 s116.2.2.2.2.2.2.2.2.2.1.getD 2 .bad],
 [s116.2.2.2.2.2.2.2.2.2.2.1.getD 0 .bad,
 s116.2.2.2.2.2.2.2.2.2.2.1.getD 1 .bad,
 s116.2.2.2.2.2.2.2.2.2.2.1.getD 2 .bad],
 s116.2.2.2.2.2.2.2.2.2.2.2.1, ()))
 fun ks121 vs122 =>
 (Ab.asBool (mlook (PV.int .i64 s116.2.2.2.1) (PV.bool false) (ks121.zip vs122))).bind fun b123 =>
 bif sameB true !b123 then
 (Ab.asInt .i64 (cell s116.2.1 0)).bind fun n124 =>
 (bif (↑s116.2.2.2.2.2.2.2.2.2.2.2.1.length : Int) == 0 then some true
 else
 if
 inRange
 (IntKind.i64.wrap ((↑s116.2.2.2.2.2.2.2.2.2.2.2.1.length : Int) - 1))
 s116.2.2.2.2.2.2.2.2.2.2.2.1.length then
 s116.2.2.2.2.2.2.2.2.2.2.2.1[(IntKind.i64.wrap
 ((↑s116.2.2.2.2.2.2.2.2.2.2.2.1.length : Int) - 1)).toNat]?.bind
 fun e125 =>
 if
 chk
 (Kd.int IntKind.i64 ::
 [].append (Kd.int IntKind.i64 :: [].append (Kd.int IntKind.i64 :: [].append [])))
 [cell e125 0, cell e125 1, cell e125 2] =
 true ∧
 chk
 (Kd.int IntKind.i64 ::
 [].append (Kd.int IntKind.i64 :: [].append (Kd.int IntKind.i64 :: [].append [])))
 [PV.int .i64 n124, PV.int .i64 s116.2.2.2.1, PV.int .i64 0] =
 true then
 some
 !peqL [cell e125 0, cell e125 1, cell e125 2]
 [PV.int .i64 n124, PV.int .i64 s116.2.2.2.1, PV.int .i64 0]
 else none
 else none).bind
 fun r126 =>
 if r126 = true then
 if
 (s116.2.2.2.2.2.2.2.2.2.2.2.1 ++
 [PV.agg
 [PV.int .i64 n124, PV.int .i64 s116.2.2.2.1,
 PV.int .i64 0]]).length *
 24 ≤
 roomBound ∧
 0 < 24 then
 rec117
 (PV.agg [cell s116.1 0], PV.agg [cell s116.2.1 0], s116.2.2.1,
 IntKind.i64.wrap (s116.2.2.2.1 + 1),
 [s116.2.2.2.2.1.getD 0 .bad, s116.2.2.2.2.1.getD 1 .bad,
 s116.2.2.2.2.1.getD 2 .bad],
 [s116.2.2.2.2.2.1.getD 0 .bad, s116.2.2.2.2.2.1.getD 1 .bad,
 s116.2.2.2.2.2.1.getD 2 .bad],
 [s116.2.2.2.2.2.2.1.getD 0 .bad, s116.2.2.2.2.2.2.1.getD 1 .bad,
 s116.2.2.2.2.2.2.1.getD 2 .bad],
 [s116.2.2.2.2.2.2.2.1.getD 0 .bad,
 s116.2.2.2.2.2.2.2.1.getD 1 .bad,
 s116.2.2.2.2.2.2.2.1.getD 2 .bad],
 [s116.2.2.2.2.2.2.2.2.1.getD 0 .bad,
 s116.2.2.2.2.2.2.2.2.1.getD 1 .bad,
 s116.2.2.2.2.2.2.2.2.1.getD 2 .bad,
 s116.2.2.2.2.2.2.2.2.1.getD 3 .bad,
 s116.2.2.2.2.2.2.2.2.1.getD 4 .bad,
 s116.2.2.2.2.2.2.2.2.1.getD 5 .bad,
 s116.2.2.2.2.2.2.2.2.1.getD 6 .bad,
 s116.2.2.2.2.2.2.2.2.1.getD 7 .bad,
 s116.2.2.2.2.2.2.2.2.1.getD 8 .bad,
 s116.2.2.2.2.2.2.2.2.1.getD 9 .bad,
 s116.2.2.2.2.2.2.2.2.1.getD 10 .bad,
 s116.2.2.2.2.2.2.2.2.1.getD 11 .bad,
 s116.2.2.2.2.2.2.2.2.1.getD 12 .bad,
 s116.2.2.2.2.2.2.2.2.1.getD 13 .bad],
 [s116.2.2.2.2.2.2.2.2.2.1.getD 0 .bad,
 s116.2.2.2.2.2.2.2.2.2.1.getD 1 .bad,
 s116.2.2.2.2.2.2.2.2.2.1.getD 2 .bad],
 [s116.2.2.2.2.2.2.2.2.2.2.1.getD 0 .bad,
 s116.2.2.2.2.2.2.2.2.2.2.1.getD 1 .bad,
 s116.2.2.2.2.2.2.2.2.2.2.1.getD 2 .bad],
 s116.2.2.2.2.2.2.2.2.2.2.2.1 ++
 [PV.agg [PV.int .i64 n124, PV.int .i64 s116.2.2.2.1, PV.int .i64 0]],
 ())
 else none
 else
 rec117
 (PV.agg [cell s116.1 0], PV.agg [cell s116.2.1 0], s116.2.2.1,
 IntKind.i64.wrap (s116.2.2.2.1 + 1),
 [s116.2.2.2.2.1.getD 0 .bad, s116.2.2.2.2.1.getD 1 .bad,
 s116.2.2.2.2.1.getD 2 .bad],
 [s116.2.2.2.2.2.1.getD 0 .bad, s116.2.2.2.2.2.1.getD 1 .bad,
 s116.2.2.2.2.2.1.getD 2 .bad],
 [s116.2.2.2.2.2.2.1.getD 0 .bad, s116.2.2.2.2.2.2.1.getD 1 .bad,
 s116.2.2.2.2.2.2.1.getD 2 .bad],
 [s116.2.2.2.2.2.2.2.1.getD 0 .bad,
 s116.2.2.2.2.2.2.2.1.getD 1 .bad,
 s116.2.2.2.2.2.2.2.1.getD 2 .bad],
 [s116.2.2.2.2.2.2.2.2.1.getD 0 .bad,
 s116.2.2.2.2.2.2.2.2.1.getD 1 .bad,
 s116.2.2.2.2.2.2.2.2.1.getD 2 .bad,
 s116.2.2.2.2.2.2.2.2.1.getD 3 .bad,
 s116.2.2.2.2.2.2.2.2.1.getD 4 .bad,
 s116.2.2.2.2.2.2.2.2.1.getD 5 .bad,
 s116.2.2.2.2.2.2.2.2.1.getD 6 .bad,
 s116.2.2.2.2.2.2.2.2.1.getD 7 .bad,
 s116.2.2.2.2.2.2.2.2.1.getD 8 .bad,
 s116.2.2.2.2.2.2.2.2.1.getD 9 .bad,
 s116.2.2.2.2.2.2.2.2.1.getD 10 .bad,
 s116.2.2.2.2.2.2.2.2.1.getD 11 .bad,
 s116.2.2.2.2.2.2.2.2.1.getD 12 .bad,
 s116.2.2.2.2.2.2.2.2.1.getD 13 .bad],
 [s116.2.2.2.2.2.2.2.2.2.1.getD 0 .bad,
 s116.2.2.2.2.2.2.2.2.2.1.getD 1 .bad,
 s116.2.2.2.2.2.2.2.2.2.1.getD 2 .bad],
 [s116.2.2.2.2.2.2.2.2.2.2.1.getD 0 .bad,
 s116.2.2.2.2.2.2.2.2.2.2.1.getD 1 .bad,
 s116.2.2.2.2.2.2.2.2.2.2.1.getD 2 .bad],
 s116.2.2.2.2.2.2.2.2.2.2.2.1, ())
 else
 rec117
 (PV.agg [cell s116.1 0], PV.agg [cell s116.2.1 0], s116.2.2.1,
 IntKind.i64.wrap (s116.2.2.2.1 + 1),
 [s116.2.2.2.2.1.getD 0 .bad, s116.2.2.2.2.1.getD 1 .bad,
 s116.2.2.2.2.1.getD 2 .bad],
 [s116.2.2.2.2.2.1.getD 0 .bad, s116.2.2.2.2.2.1.getD 1 .bad,
 s116.2.2.2.2.2.1.getD 2 .bad],
 [s116.2.2.2.2.2.2.1.getD 0 .bad, s116.2.2.2.2.2.2.1.getD 1 .bad,
 s116.2.2.2.2.2.2.1.getD 2 .bad],
 [s116.2.2.2.2.2.2.2.1.getD 0 .bad, s116.2.2.2.2.2.2.2.1.getD 1 .bad,
 s116.2.2.2.2.2.2.2.1.getD 2 .bad],
 [s116.2.2.2.2.2.2.2.2.1.getD 0 .bad,
 s116.2.2.2.2.2.2.2.2.1.getD 1 .bad,
 s116.2.2.2.2.2.2.2.2.1.getD 2 .bad,
 s116.2.2.2.2.2.2.2.2.1.getD 3 .bad,
 s116.2.2.2.2.2.2.2.2.1.getD 4 .bad,
 s116.2.2.2.2.2.2.2.2.1.getD 5 .bad,
 s116.2.2.2.2.2.2.2.2.1.getD 6 .bad,
 s116.2.2.2.2.2.2.2.2.1.getD 7 .bad,
 s116.2.2.2.2.2.2.2.2.1.getD 8 .bad,
 s116.2.2.2.2.2.2.2.2.1.getD 9 .bad,
 s116.2.2.2.2.2.2.2.2.1.getD 10 .bad,
 s116.2.2.2.2.2.2.2.2.1.getD 11 .bad,
 s116.2.2.2.2.2.2.2.2.1.getD 12 .bad,
 s116.2.2.2.2.2.2.2.2.1.getD 13 .bad],
 [s116.2.2.2.2.2.2.2.2.2.1.getD 0 .bad,
 s116.2.2.2.2.2.2.2.2.2.1.getD 1 .bad,
 s116.2.2.2.2.2.2.2.2.2.1.getD 2 .bad],
 [s116.2.2.2.2.2.2.2.2.2.2.1.getD 0 .bad,
 s116.2.2.2.2.2.2.2.2.2.2.1.getD 1 .bad,
 s116.2.2.2.2.2.2.2.2.2.2.1.getD 2 .bad],
 s116.2.2.2.2.2.2.2.2.2.2.2.1, ())
else some (PV.rs 3 s116.2.2.2.2.2.2.2.2.2.2.2.1)
def lint_Warnings_L3 (L : Lps) : (PV × PV × Int × Int × List PV × List PV × List PV × List PV × List PV × List PV × List PV × List PV × Unit) → (PV × PV × Int × Int × List PV × List PV × List PV × List PV × List PV × List PV × List PV × List PV × Unit → Option PV) → Option PV := fun s104 rec105 =>
 if decide (s104.2.2.2.1 < s104.2.2.1) = true then
 mapCase 3 (cell s104.1 0)
 ((Ab.asInt .i64 (cell s104.2.1 0)).bind fun n106 =>
 (bif (↑s104.2.2.2.2.2.2.2.2.2.2.2.1.length : Int) == 0 then some true
 else
 if
 inRange (IntKind.i64.wrap ((↑s104.2.2.2.2.2.2.2.2.2.2.2.1.length : Int) - 1))
 s104.2.2.2.2.2.2.2.2.2.2.2.1.length then
 s104.2.2.2.2.2.2.2.2.2.2.2.1[(IntKind.i64.wrap
 ((↑s104.2.2.2.2.2.2.2.2.2.2.2.1.length : Int) - 1)).toNat]?.bind
 fun e107 =>
 if
 chk
 (Kd.int IntKind.i64 ::
 [].append (Kd.int IntKind.i64 :: [].append (Kd.int IntKind.i64 :: [].append [])))
 [cell e107 0, cell e107 1, cell e107 2] =
 true ∧
 chk
 (Kd.int IntKind.i64 ::
 [].append (Kd.int IntKind.i64 :: [].append (Kd.int IntKind.i64 :: [].append [])))
 [PV.int .i64 n106, PV.int .i64 s104.2.2.2.1, PV.int .i64 0] =
 true then
 some
 !peqL [cell e107 0, cell e107 1, cell e107 2]
 [PV.int .i64 n106, PV.int .i64 s104.2.2.2.1, PV.int .i64 0]
 else none
 else none).bind
 fun r108 =>
 if r108 = true then
 if
 (s104.2.2.2.2.2.2.2.2.2.2.2.1 ++
 [PV.agg
 [PV.int .i64 n106, PV.int .i64 s104.2.2.2.1,
 PV.int .i64 0]]).length *
 24 ≤
 roomBound ∧
 0 < 24 then
 rec105
 (PV.agg [cell s104.1 0], PV.agg [cell s104.2.1 0], s104.2.2.1,
 IntKind.i64.wrap (s104.2.2.2.1 + 1),
 [s104.2.2.2.2.1.getD 0 .bad, s104.2.2.2.2.1.getD 1 .bad,
 s104.2.2.2.2.1.getD 2 .bad],
 [s104.2.2.2.2.2.1.getD 0 .bad, s104.2.2.2.2.2.1.getD 1 .bad,
 s104.2.2.2.2.2.1.getD 2 .bad],
 [s104.2.2.2.2.2.2.1.getD 0 .bad, s104.2.2.2.2.2.2.1.getD 1 .bad,
 s104.2.2.2.2.2.2.1.getD 2 .bad],
 [s104.2.2.2.2.2.2.2.1.getD 0 .bad, s104.2.2.2.2.2.2.2.1.getD 1 .bad,
 s104.2.2.2.2.2.2.2.1.getD 2 .bad],
 [s104.2.2.2.2.2.2.2.2.1.getD 0 .bad,
 s104.2.2.2.2.2.2.2.2.1.getD 1 .bad,
 s104.2.2.2.2.2.2.2.2.1.getD 2 .bad,
 s104.2.2.2.2.2.2.2.2.1.getD 3 .bad,
 s104.2.2.2.2.2.2.2.2.1.getD 4 .bad,
 s104.2.2.2.2.2.2.2.2.1.getD 5 .bad,
 s104.2.2.2.2.2.2.2.2.1.getD 6 .bad,
 s104.2.2.2.2.2.2.2.2.1.getD 7 .bad,
 s104.2.2.2.2.2.2.2.2.1.getD 8 .bad,
 s104.2.2.2.2.2.2.2.2.1.getD 9 .bad,
 s104.2.2.2.2.2.2.2.2.1.getD 10 .bad,
 s104.2.2.2.2.2.2.2.2.1.getD 11 .bad,
 s104.2.2.2.2.2.2.2.2.1.getD 12 .bad,
 s104.2.2.2.2.2.2.2.2.1.getD 13 .bad],
 [s104.2.2.2.2.2.2.2.2.2.1.getD 0 .bad,
 s104.2.2.2.2.2.2.2.2.2.1.getD 1 .bad,
 s104.2.2.2.2.2.2.2.2.2.1.getD 2 .bad],
 [s104.2.2.2.2.2.2.2.2.2.2.1.getD 0 .bad,
 s104.2.2.2.2.2.2.2.2.2.2.1.getD 1 .bad,
 s104.2.2.2.2.2.2.2.2.2.2.1.getD 2 .bad],
 s104.2.2.2.2.2.2.2.2.2.2.2.1 ++
 [PV.agg [PV.int .i64 n106, PV.int .i64 s104.2.2.2.1, PV.int .i64 0]],
 ())
 else none
 else
 rec105
 (PV.agg [cell s104.1 0], PV.agg [cell s104.2.1 0], s104.2.2.1,
 IntKind.i64.wrap (s104.2.2.2.1 + 1),
 [s104.2.2.2.2.1.getD 0 .bad, s104.2.2.2.2.1.getD 1 .bad,
 s104.2.2.2.2.1.getD 2 .bad],
 [s104.2.2.2.2.2.1.getD 0 .bad, s104.2.2.2.2.2.1.getD 1 .bad,
 s104.2.2.2.2.2.1.getD 2 .bad],
 [s104.2.2.2.2.2.2.1.getD 0 .bad, s104.2.2.2.2.2.2.1.getD 1 .bad,
 s104.2.2.2.2.2.2.1.getD 2 .bad],
 [s104.2.2.2.2.2.2.2.1.getD 0 .bad, s104.2.2.2.2.2.2.2.1.getD 1 .bad,
 s104.2.2.2.2.2.2.2.1.getD 2 .bad],
 [s104.2.2.2.2.2.2.2.2.1.getD 0 .bad,
 s104.2.2.2.2.2.2.2.2.1.getD 1 .bad,
 s104.2.2.2.2.2.2.2.2.1.getD 2 .bad,
 s104.2.2.2.2.2.2.2.2.1.getD 3 .bad,
 s104.2.2.2.2.2.2.2.2.1.getD 4 .bad,
 s104.2.2.2.2.2.2.2.2.1.getD 5 .bad,
 s104.2.2.2.2.2.2.2.2.1.getD 6 .bad,
 s104.2.2.2.2.2.2.2.2.1.getD 7 .bad,
 s104.2.2.2.2.2.2.2.2.1.getD 8 .bad,
 s104.2.2.2.2.2.2.2.2.1.getD 9 .bad,
 s104.2.2.2.2.2.2.2.2.1.getD 10 .bad,
 s104.2.2.2.2.2.2.2.2.1.getD 11 .bad,
 s104.2.2.2.2.2.2.2.2.1.getD 12 .bad,
 s104.2.2.2.2.2.2.2.2.1.getD 13 .bad],
 [s104.2.2.2.2.2.2.2.2.2.1.getD 0 .bad,
 s104.2.2.2.2.2.2.2.2.2.1.getD 1 .bad,
 s104.2.2.2.2.2.2.2.2.2.1.getD 2 .bad],
 [s104.2.2.2.2.2.2.2.2.2.2.1.getD 0 .bad,
 s104.2.2.2.2.2.2.2.2.2.2.1.getD 1 .bad,
 s104.2.2.2.2.2.2.2.2.2.2.1.getD 2 .bad],
 s104.2.2.2.2.2.2.2.2.2.2.2.1, ()))
 fun ks109 vs110 =>
 (Ab.asBool (mlook (PV.int .i64 s104.2.2.2.1) (PV.bool false) (ks109.zip vs110))).bind fun b111 =>
 bif sameB true !b111 then
 (Ab.asInt .i64 (cell s104.2.1 0)).bind fun n112 =>
 (bif (↑s104.2.2.2.2.2.2.2.2.2.2.2.1.length : Int) == 0 then some true
 else
 if
 inRange
 (IntKind.i64.wrap ((↑s104.2.2.2.2.2.2.2.2.2.2.2.1.length : Int) - 1))
 s104.2.2.2.2.2.2.2.2.2.2.2.1.length then
 s104.2.2.2.2.2.2.2.2.2.2.2.1[(IntKind.i64.wrap
 ((↑s104.2.2.2.2.2.2.2.2.2.2.2.1.length : Int) - 1)).toNat]?.bind
 fun e113 =>
 if
 chk
 (Kd.int IntKind.i64 ::
 [].append (Kd.int IntKind.i64 :: [].append (Kd.int IntKind.i64 :: [].append [])))
 [cell e113 0, cell e113 1, cell e113 2] =
 true ∧
 chk
 (Kd.int IntKind.i64 ::
 [].append (Kd.int IntKind.i64 :: [].append (Kd.int IntKind.i64 :: [].append [])))
 [PV.int .i64 n112, PV.int .i64 s104.2.2.2.1, PV.int .i64 0] =
 true then
 some
 !peqL [cell e113 0, cell e113 1, cell e113 2]
 [PV.int .i64 n112, PV.int .i64 s104.2.2.2.1, PV.int .i64 0]
 else none
 else none).bind
 fun r114 =>
 if r114 = true then
 if
 (s104.2.2.2.2.2.2.2.2.2.2.2.1 ++
 [PV.agg
 [PV.int .i64 n112, PV.int .i64 s104.2.2.2.1,
 PV.int .i64 0]]).length *
 24 ≤
 roomBound ∧
 0 < 24 then
 rec105
 (PV.agg [cell s104.1 0], PV.agg [cell s104.2.1 0], s104.2.2.1,
 IntKind.i64.wrap (s104.2.2.2.1 + 1),
 [s104.2.2.2.2.1.getD 0 .bad, s104.2.2.2.2.1.getD 1 .bad,
 s104.2.2.2.2.1.getD 2 .bad],
 [s104.2.2.2.2.2.1.getD 0 .bad, s104.2.2.2.2.2.1.getD 1 .bad,
 s104.2.2.2.2.2.1.getD 2 .bad],
 [s104.2.2.2.2.2.2.1.getD 0 .bad, s104.2.2.2.2.2.2.1.getD 1 .bad,
 s104.2.2.2.2.2.2.1.getD 2 .bad],
 [s104.2.2.2.2.2.2.2.1.getD 0 .bad,
 s104.2.2.2.2.2.2.2.1.getD 1 .bad,
 s104.2.2.2.2.2.2.2.1.getD 2 .bad],
 [s104.2.2.2.2.2.2.2.2.1.getD 0 .bad,
 s104.2.2.2.2.2.2.2.2.1.getD 1 .bad,
 s104.2.2.2.2.2.2.2.2.1.getD 2 .bad,
 s104.2.2.2.2.2.2.2.2.1.getD 3 .bad,
 s104.2.2.2.2.2.2.2.2.1.getD 4 .bad,
 s104.2.2.2.2.2.2.2.2.1.getD 5 .bad,
 s104.2.2.2.2.2.2.2.2.1.getD 6 .bad,
 s104.2.2.2.2.2.2.2.2.1.getD 7 .bad,
 s104.2.2.2.2.2.2.2.2.1.getD 8 .bad,
 s104.2.2.2.2.2.2.2.2.1.getD 9 .bad,
 s104.2.2.2.2.2.2.2.2.1.getD 10 .bad,
 s104.2.2.2.2.2.2.2.2.1.getD 11 .bad,
 s104.2.2.2.2.2.2.2.2.1.getD 12 .bad,
 s104.2.2.2.2.2.2.2.2.1.getD 13 .bad],
 [s104.2.2.2.2.2.2.2.2.2.1.getD 0 .bad,
 s104.2.2.2.2.2.2.2.2.2.1.getD 1 .bad,
 s104.2.2.2.2.2.2.2.2.2.1.getD 2 .bad],
 [s104.2.2.2.2.2.2.2.2.2.2.1.getD 0 .bad,
 s104.2.2.2.2.2.2.2.2.2.2.1.getD 1 .bad,
 s104.2.2.2.2.2.2.2.2.2.2.1.getD 2 .bad],
 s104.2.2.2.2.2.2.2.2.2.2.2.1 ++
 [PV.agg [PV.int .i64 n112, PV.int .i64 s104.2.2.2.1, PV.int .i64 0]],
 ())
 else none
 else
 rec105
 (PV.agg [cell s104.1 0], PV.agg [cell s104.2.1 0], s104.2.2.1,
 IntKind.i64.wrap (s104.2.2.2.1 + 1),
 [s104.2.2.2.2.1.getD 0 .bad, s104.2.2.2.2.1.getD 1 .bad,
 s104.2.2.2.2.1.getD 2 .bad],
 [s104.2.2.2.2.2.1.getD 0 .bad, s104.2.2.2.2.2.1.getD 1 .bad,
 s104.2.2.2.2.2.1.getD 2 .bad],
 [s104.2.2.2.2.2.2.1.getD 0 .bad, s104.2.2.2.2.2.2.1.getD 1 .bad,
 s104.2.2.2.2.2.2.1.getD 2 .bad],
 [s104.2.2.2.2.2.2.2.1.getD 0 .bad,
 s104.2.2.2.2.2.2.2.1.getD 1 .bad,
 s104.2.2.2.2.2.2.2.1.getD 2 .bad],
 [s104.2.2.2.2.2.2.2.2.1.getD 0 .bad,
 s104.2.2.2.2.2.2.2.2.1.getD 1 .bad,
 s104.2.2.2.2.2.2.2.2.1.getD 2 .bad,
 s104.2.2.2.2.2.2.2.2.1.getD 3 .bad,
 s104.2.2.2.2.2.2.2.2.1.getD 4 .bad,
 s104.2.2.2.2.2.2.2.2.1.getD 5 .bad,
 s104.2.2.2.2.2.2.2.2.1.getD 6 .bad,
 s104.2.2.2.2.2.2.2.2.1.getD 7 .bad,
 s104.2.2.2.2.2.2.2.2.1.getD 8 .bad,
 s104.2.2.2.2.2.2.2.2.1.getD 9 .bad,
 s104.2.2.2.2.2.2.2.2.1.getD 10 .bad,
 s104.2.2.2.2.2.2.2.2.1.getD 11 .bad,
 s104.2.2.2.2.2.2.2.2.1.getD 12 .bad,
 s104.2.2.2.2.2.2.2.2.1.getD 13 .bad],
 [s104.2.2.2.2.2.2.2.2.2.1.getD 0 .bad,
 s104.2.2.2.2.2.2.2.2.2.1.getD 1 .bad,
 s104.2.2.2.2.2.2.2.2.2.1.getD 2 .bad],
 [s104.2.2.2.2.2.2.2.2.2.2.1.getD 0 .bad,
 s104.2.2.2.2.2.2.2.2.2.2.1.getD 1 .bad,
 s104.2.2.2.2.2.2.2.2.2.2.1.getD 2 .bad],
 s104.2.2.2.2.2.2.2.2.2.2.2.1, ())
 else
 rec105
 (PV.agg [cell s104.1 0], PV.agg [cell s104.2.1 0], s104.2.2.1,
 IntKind.i64.wrap (s104.2.2.2.1 + 1),
 [s104.2.2.2.2.1.getD 0 .bad, s104.2.2.2.2.1.getD 1 .bad,
 s104.2.2.2.2.1.getD 2 .bad],
 [s104.2.2.2.2.2.1.getD 0 .bad, s104.2.2.2.2.2.1.getD 1 .bad,
 s104.2.2.2.2.2.1.getD 2 .bad],
 [s104.2.2.2.2.2.2.1.getD 0 .bad, s104.2.2.2.2.2.2.1.getD 1 .bad,
 s104.2.2.2.2.2.2.1.getD 2 .bad],
 [s104.2.2.2.2.2.2.2.1.getD 0 .bad, s104.2.2.2.2.2.2.2.1.getD 1 .bad,
 s104.2.2.2.2.2.2.2.1.getD 2 .bad],
 [s104.2.2.2.2.2.2.2.2.1.getD 0 .bad,
 s104.2.2.2.2.2.2.2.2.1.getD 1 .bad,
 s104.2.2.2.2.2.2.2.2.1.getD 2 .bad,
 s104.2.2.2.2.2.2.2.2.1.getD 3 .bad,
 s104.2.2.2.2.2.2.2.2.1.getD 4 .bad,
 s104.2.2.2.2.2.2.2.2.1.getD 5 .bad,
 s104.2.2.2.2.2.2.2.2.1.getD 6 .bad,
 s104.2.2.2.2.2.2.2.2.1.getD 7 .bad,
 s104.2.2.2.2.2.2.2.2.1.getD 8 .bad,
 s104.2.2.2.2.2.2.2.2.1.getD 9 .bad,
 s104.2.2.2.2.2.2.2.2.1.getD 10 .bad,
 s104.2.2.2.2.2.2.2.2.1.getD 11 .bad,
 s104.2.2.2.2.2.2.2.2.1.getD 12 .bad,
 s104.2.2.2.2.2.2.2.2.1.getD 13 .bad],
 [s104.2.2.2.2.2.2.2.2.2.1.getD 0 .bad,
 s104.2.2.2.2.2.2.2.2.2.1.getD 1 .bad,
 s104.2.2.2.2.2.2.2.2.2.1.getD 2 .bad],
 [s104.2.2.2.2.2.2.2.2.2.2.1.getD 0 .bad,
 s104.2.2.2.2.2.2.2.2.2.2.1.getD 1 .bad,
 s104.2.2.2.2.2.2.2.2.2.2.1.getD 2 .bad],
 s104.2.2.2.2.2.2.2.2.2.2.2.1, ())
else
 (Ab.asInt .i64 (s104.2.2.2.2.2.2.2.2.2.2.1.getD 0 .bad)).bind fun n115 =>
 L.run (lint_Warnings_L2 L)
 (PV.agg [s104.2.2.2.2.2.2.2.2.2.2.1.getD 1 .bad],
 PV.agg [s104.2.2.2.2.2.2.2.2.2.2.1.getD 2 .bad], n115, 0,
 [s104.2.2.2.2.1.getD 0 .bad, s104.2.2.2.2.1.getD 1 .bad,
 s104.2.2.2.2.1.getD 2 .bad],
 [s104.2.2.2.2.2.1.getD 0 .bad, s104.2.2.2.2.2.1.getD 1 .bad,
 s104.2.2.2.2.2.1.getD 2 .bad],
 [s104.2.2.2.2.2.2.1.getD 0 .bad, s104.2.2.2.2.2.2.1.getD 1 .bad,
 s104.2.2.2.2.2.2.1.getD 2 .bad],
 [s104.2.2.2.2.2.2.2.1.getD 0 .bad, s104.2.2.2.2.2.2.2.1.getD 1 .bad,
 s104.2.2.2.2.2.2.2.1.getD 2 .bad],
 [s104.2.2.2.2.2.2.2.2.1.getD 0 .bad, s104.2.2.2.2.2.2.2.2.1.getD 1 .bad,
 s104.2.2.2.2.2.2.2.2.1.getD 2 .bad,
 s104.2.2.2.2.2.2.2.2.1.getD 3 .bad,
 s104.2.2.2.2.2.2.2.2.1.getD 4 .bad,
 s104.2.2.2.2.2.2.2.2.1.getD 5 .bad,
 s104.2.2.2.2.2.2.2.2.1.getD 6 .bad,
 s104.2.2.2.2.2.2.2.2.1.getD 7 .bad,
 s104.2.2.2.2.2.2.2.2.1.getD 8 .bad,
 s104.2.2.2.2.2.2.2.2.1.getD 9 .bad,
 s104.2.2.2.2.2.2.2.2.1.getD 10 .bad,
 s104.2.2.2.2.2.2.2.2.1.getD 11 .bad,
 s104.2.2.2.2.2.2.2.2.1.getD 12 .bad,
 s104.2.2.2.2.2.2.2.2.1.getD 13 .bad],
 [s104.2.2.2.2.2.2.2.2.2.1.getD 0 .bad,
 s104.2.2.2.2.2.2.2.2.2.1.getD 1 .bad,
 s104.2.2.2.2.2.2.2.2.2.1.getD 2 .bad],
 [s104.2.2.2.2.2.2.2.2.2.2.1.getD 0 .bad,
 s104.2.2.2.2.2.2.2.2.2.2.1.getD 1 .bad,
 s104.2.2.2.2.2.2.2.2.2.2.1.getD 2 .bad],
 s104.2.2.2.2.2.2.2.2.2.2.2.1, ())
def lint_Warnings_L4 (L : Lps) : (PV ×
 List PV × List PV × Int × Int × List PV × List PV × List PV × List PV × List PV × List PV × List PV × List PV × Unit) → (PV ×
 List PV ×
 List PV × Int × Int × List PV × List PV × List PV × List PV × List PV × List PV × List PV × List PV × Unit →
 Option PV) → Option PV := fun s82 rec83 =>
 if decide (s82.2.2.2.2.1 < s82.2.2.2.1) = true then
 (idxP s82.2.2.1 s82.2.2.2.2.1).bind fun p84 =>
 (asSl 5 (cell s82.1 4)).bind fun es85 =>
 L.run (lint_Warnings_L1 L rec83)
 (PV.agg
 [cell s82.1 0, cell s82.1 1, cell s82.1 2, cell s82.1 3, cell s82.1 4, cell s82.1 5,
 cell s82.1 6, cell s82.1 7, cell s82.1 8, cell s82.1 9, cell s82.1 10, cell s82.1 11,
 cell s82.1 12],
 [s82.2.1.getD 0 .bad], s82.2.2.2.2.1, s82.2.2.1, s82.2.2.2.1,
 s82.2.2.2.2.1, es85, (↑es85.length : Int), 0, cell p84 0, cell p84 1, cell p84 2, cell p84 3,
 cell p84 4,
 [s82.2.2.2.2.2.1.getD 0 .bad, s82.2.2.2.2.2.1.getD 1 .bad,
 s82.2.2.2.2.2.1.getD 2 .bad],
 [s82.2.2.2.2.2.2.1.getD 0 .bad, s82.2.2.2.2.2.2.1.getD 1 .bad,
 s82.2.2.2.2.2.2.1.getD 2 .bad],
 [s82.2.2.2.2.2.2.2.1.getD 0 .bad, s82.2.2.2.2.2.2.2.1.getD 1 .bad,
 s82.2.2.2.2.2.2.2.1.getD 2 .bad],
 [s82.2.2.2.2.2.2.2.2.1.getD 0 .bad, s82.2.2.2.2.2.2.2.2.1.getD 1 .bad,
 s82.2.2.2.2.2.2.2.2.1.getD 2 .bad],
 [s82.2.2.2.2.2.2.2.2.2.1.getD 0 .bad,
 s82.2.2.2.2.2.2.2.2.2.1.getD 1 .bad,
 s82.2.2.2.2.2.2.2.2.2.1.getD 2 .bad,
 s82.2.2.2.2.2.2.2.2.2.1.getD 3 .bad,
 s82.2.2.2.2.2.2.2.2.2.1.getD 4 .bad,
 s82.2.2.2.2.2.2.2.2.2.1.getD 5 .bad,
 s82.2.2.2.2.2.2.2.2.2.1.getD 6 .bad,
 s82.2.2.2.2.2.2.2.2.2.1.getD 7 .bad,
 s82.2.2.2.2.2.2.2.2.2.1.getD 8 .bad,
 s82.2.2.2.2.2.2.2.2.2.1.getD 9 .bad,
 s82.2.2.2.2.2.2.2.2.2.1.getD 10 .bad,
 s82.2.2.2.2.2.2.2.2.2.1.getD 11 .bad,
 s82.2.2.2.2.2.2.2.2.2.1.getD 12 .bad,
 s82.2.2.2.2.2.2.2.2.2.1.getD 13 .bad],
 [s82.2.2.2.2.2.2.2.2.2.2.1.getD 0 .bad,
 s82.2.2.2.2.2.2.2.2.2.2.1.getD 1 .bad,
 s82.2.2.2.2.2.2.2.2.2.2.1.getD 2 .bad],
 [s82.2.2.2.2.2.2.2.2.2.2.2.1.getD 0 .bad,
 s82.2.2.2.2.2.2.2.2.2.2.2.1.getD 1 .bad,
 s82.2.2.2.2.2.2.2.2.2.2.2.1.getD 2 .bad],
 s82.2.2.2.2.2.2.2.2.2.2.2.2.1, ())
else
 (Ab.asInt .i64 (s82.2.2.2.2.2.2.2.2.2.2.1.getD 0 .bad)).bind fun n103 =>
 L.run (lint_Warnings_L3 L)
 (PV.agg [s82.2.2.2.2.2.2.2.2.2.2.1.getD 1 .bad],
 PV.agg [s82.2.2.2.2.2.2.2.2.2.2.1.getD 2 .bad], n103, 0,
 [s82.2.2.2.2.2.1.getD 0 .bad, s82.2.2.2.2.2.1.getD 1 .bad,
 s82.2.2.2.2.2.1.getD 2 .bad],
 [s82.2.2.2.2.2.2.1.getD 0 .bad, s82.2.2.2.2.2.2.1.getD 1 .bad,
 s82.2.2.2.2.2.2.1.getD 2 .bad],
 [s82.2.2.2.2.2.2.2.1.getD 0 .bad, s82.2.2.2.2.2.2.2.1.getD 1 .bad,
 s82.2.2.2.2.2.2.2.1.getD 2 .bad],
 [s82.2.2.2.2.2.2.2.2.1.getD 0 .bad, s82.2.2.2.2.2.2.2.2.1.getD 1 .bad,
 s82.2.2.2.2.2.2.2.2.1.getD 2 .bad],
 [s82.2.2.2.2.2.2.2.2.2.1.getD 0 .bad,
 s82.2.2.2.2.2.2.2.2.2.1.getD 1 .bad,
 s82.2.2.2.2.2.2.2.2.2.1.getD 2 .bad,
 s82.2.2.2.2.2.2.2.2.2.1.getD 3 .bad,
 s82.2.2.2.2.2.2.2.2.2.1.getD 4 .bad,
 s82.2.2.2.2.2.2.2.2.2.1.getD 5 .bad,
 s82.2.2.2.2.2.2.2.2.2.1.getD 6 .bad,
 s82.2.2.2.2.2.2.2.2.2.1.getD 7 .bad,
 s82.2.2.2.2.2.2.2.2.2.1.getD 8 .bad,
 s82.2.2.2.2.2.2.2.2.2.1.getD 9 .bad,
 s82.2.2.2.2.2.2.2.2.2.1.getD 10 .bad,
 s82.2.2.2.2.2.2.2.2.2.1.getD 11 .bad,
 s82.2.2.2.2.2.2.2.2.2.1.getD 12 .bad,
 s82.2.2.2.2.2.2.2.2.2.1.getD 13 .bad],
 [s82.2.2.2.2.2.2.2.2.2.2.1.getD 0 .bad,
 s82.2.2.2.2.2.2.2.2.2.2.1.getD 1 .bad,
 s82.2.2.2.2.2.2.2.2.2.2.1.getD 2 .bad],
 [s82.2.2.2.2.2.2.2.2.2.2.2.1.getD 0 .bad,
 s82.2.2.2.2.2.2.2.2.2.2.2.1.getD 1 .bad,
 s82.2.2.2.2.2.2.2.2.2.2.2.1.getD 2 .bad],
 s82.2.2.2.2.2.2.2.2.2.2.2.2.1, ())
def lint_Warnings_L5 (L : Lps) : (PV × PV × Int × Int × List PV × List PV × List PV × List PV × List PV × List PV × List PV × List PV × Unit) → (PV × PV × Int × Int × List PV × List PV × List PV × List PV × List PV × List PV × List PV × List PV × Unit → Option PV) → Option PV := fun s70 rec71 =>
 if decide (s70.2.2.2.1 < s70.2.2.1) = true then
 mapCase 3 (cell s70.1 0)
 ((Ab.asInt .i64 (cell s70.2.1 0)).bind fun n72 =>
 (bif (↑s70.2.2.2.2.2.2.2.2.2.2.2.1.length : Int) == 0 then some true
 else
 if
 inRange (IntKind.i64.wrap ((↑s70.2.2.2.2.2.2.2.2.2.2.2.1.length : Int) - 1))
 s70.2.2.2.2.2.2.2.2.2.2.2.1.length then
 s70.2.2.2.2.2.2.2.2.2.2.2.1[(IntKind.i64.wrap
 ((↑s70.2.2.2.2.2.2.2.2.2.2.2.1.length : Int) - 1)).toNat]?.bind
 fun e73 =>
 if
 chk
 (Kd.int IntKind.i64 ::
 [].append (Kd.int IntKind.i64 :: [].append (Kd.int IntKind.i64 :: [].append [])))
 [cell e73 0, cell e73 1, cell e73 2] =
 true ∧
 chk
 (Kd.int IntKind.i64 ::
 [].append (Kd.int IntKind.i64 :: [].append (Kd.int IntKind.i64 :: [].append [])))
 [PV.int .i64 n72, PV.int .i64 s70.2.2.2.1, PV.int .i64 0] =
 true then
 some
 !peqL [cell e73 0, cell e73 1, cell e73 2]
 [PV.int .i64 n72, PV.int .i64 s70.2.2.2.1, PV.int .i64 0]
 else none
 else none).bind
 fun r74 =>
 if r74 = true then
 if
 (s70.2.2.2.2.2.2.2.2.2.2.2.1 ++
 [PV.agg
 [PV.int .i64 n72, PV.int .i64 s70.2.2.2.1,
 PV.int .i64 0]]).length *
 24 ≤
 roomBound ∧
 0 < 24 then
 rec71
 (PV.agg [cell s70.1 0], PV.agg [cell s70.2.1 0], s70.2.2.1,
 IntKind.i64.wrap (s70.2.2.2.1 + 1),
 [s70.2.2.2.2.1.getD 0 .bad, s70.2.2.2.2.1.getD 1 .bad,
 s70.2.2.2.2.1.getD 2 .bad],
 [s70.2.2.2.2.2.1.getD 0 .bad, s70.2.2.2.2.2.1.getD 1 .bad,
 s70.2.2.2.2.2.1.getD 2 .bad],
 [s70.2.2.2.2.2.2.1.getD 0 .bad, s70.2.2.2.2.2.2.1.getD 1 .bad,
 s70.2.2.2.2.2.2.1.getD 2 .bad],
 [s70.2.2.2.2.2.2.2.1.getD 0 .bad, s70.2.2.2.2.2.2.2.1.getD 1 .bad,
 s70.2.2.2.2.2.2.2.1.getD 2 .bad],
 [s70.2.2.2.2.2.2.2.2.1.getD 0 .bad,
 s70.2.2.2.2.2.2.2.2.1.getD 1 .bad,
 s70.2.2.2.2.2.2.2.2.1.getD 2 .bad,
 s70.2.2.2.2.2.2.2.2.1.getD 3 .bad,
 s70.2.2.2.2.2.2.2.2.1.getD 4 .bad,
 s70.2.2.2.2.2.2.2.2.1.getD 5 .bad,
 s70.2.2.2.2.2.2.2.2.1.getD 6 .bad,
 s70.2.2.2.2.2.2.2.2.1.getD 7 .bad,
 s70.2.2.2.2.2.2.2.2.1.getD 8 .bad,
 s70.2.2.2.2.2.2.2.2.1.getD 9 .bad,
 s70.2.2.2.2.2.2.2.2.1.getD 10 .bad,
 s70.2.2.2.2.2.2.2.2.1.getD 11 .bad,
 s70.2.2.2.2.2.2.2.2.1.getD 12 .bad,
 s70.2.2.2.2.2.2.2.2.1.getD 13 .bad],
 [s70.2.2.2.2.2.2.2.2.2.1.getD 0 .bad,
 s70.2.2.2.2.2.2.2.2.2.1.getD 1 .bad,
 s70.2.2.2.2.2.2.2.2.2.1.getD 2 .bad],
 [s70.2.2.2.2.2.2.2.2.2.2.1.getD 0 .bad,
 s70.2.2.2.2.2.2.2.2.2.2.1.getD 1 .bad,
 s70.2.2.2.2.2.2.2.2.2.2.1.getD 2 .bad],
 s70.2.2.2.2.2.2.2.2.2.2.2.1 ++
 [PV.agg [PV.int .i64 n72, PV.int .i64 s70.2.2.2.1, PV.int .i64 0]],
 ())
 else none
 else
 rec71
 (PV.agg [cell s70.1 0], PV.agg [cell s70.2.1 0], s70.2.2.1,
 IntKind.i64.wrap (s70.2.2.2.1 + 1),
 [s70.2.2.2.2.1.getD 0 .bad, s70.2.2.2.2.1.getD 1 .bad,
 s70.2.2.2.2.1.getD 2 .bad],
 [s70.2.2.2.2.2.1.getD 0 .bad, s70.2.2.2.2.2.1.getD 1 .bad,
 s70.2.2.2.2.2.1.getD 2 .bad],
 [s70.2.2.2.2.2.2.1.getD 0 .bad, s70.2.2.2.2.2.2.1.getD 1 .bad,
 s70.2.2.2.2.2.2.1.getD 2 .bad],
 [s70.2.2.2.2.2.2.2.1.getD 0 .bad, s70.2.2.2.2.2.2.2.1.getD 1 .bad,
 s70.2.2.2.2.2.2.2.1.getD 2 .bad],
 [s70.2.2.2.2.2.2.2.2.1.getD 0 .bad,
 s70.2.2.2.2.2.2.2.2.1.getD 1 .bad,
 s70.2.2.2.2.2.2.2.2.1.getD 2 .bad,
 s70.2.2.2.2.2.2.2.2.1.getD 3 .bad,
 s70.2.2.2.2.2.2.2.2.1.getD 4 .bad,
 s70.2.2.2.2.2.2.2.2.1.getD 5 .bad,
 s70.2.2.2.2.2.2.2.2.1.getD 6 .bad,
 s70.2.2.2.2.2.2.2.2.1.getD 7 .bad,
 s70.2.2.2.2.2.2.2.2.1.getD 8 .bad,
 s70.2.2.2.2.2.2.2.2.1.getD 9 .bad,
 s70.2.2.2.2.2.2.2.2.1.getD 10 .bad,
 s70.2.2.2.2.2.2.2.2.1.getD 11 .bad,
 s70.2.2.2.2.2.2.2.2.1.getD 12 .bad,
 s70.2.2.2.2.2.2.2.2.1.getD 13 .bad],
 [s70.2.2.2.2.2.2.2.2.2.1.getD 0 .bad,
 s70.2.2.2.2.2.2.2.2.2.1.getD 1 .bad,
 s70.2.2.2.2.2.2.2.2.2.1.getD 2 .bad],
 [s70.2.2.2.2.2.2.2.2.2.2.1.getD 0 .bad,
 s70.2.2.2.2.2.2.2.2.2.2.1.getD 1 .bad,
 s70.2.2.2.2.2.2.2.2.2.2.1.getD 2 .bad],
 s70.2.2.2.2.2.2.2.2.2.2.2.1, ()))
 fun ks75 vs76 =>
 (Ab.asBool (mlook (PV.int .i64 s70.2.2.2.1) (PV.bool false) (ks75.zip vs76))).bind fun b77 =>
 bif sameB true !b77 then
 (Ab.asInt .i64 (cell s70.2.1 0)).bind fun n78 =>
 (bif (↑s70.2.2.2.2.2.2.2.2.2.2.2.1.length : Int) == 0 then some true
 else
 if
 inRange (IntKind.i64.wrap ((↑s70.2.2.2.2.2.2.2.2.2.2.2.1.length : Int) - 1))
 s70.2.2.2.2.2.2.2.2.2.2.2.1.length then
 s70.2.2.2.2.2.2.2.2.2.2.2.1[(IntKind.i64.wrap
 ((↑s70.2.2.2.2.2.2.2.2.2.2.2.1.length : Int) - 1)).toNat]?.bind
 fun e79 =>
 if
 chk
 (Kd.int IntKind.i64 ::
 [].append (Kd.int IntKind.i64 :: [].append (Kd.int IntKind.i64 :: [].append [])))
 [cell e79 0, cell e79 1, cell e79 2] =
 true ∧
 chk
 (Kd.int IntKind.i64 ::
 [].append (Kd.int IntKind.i64 :: [].append (Kd.int IntKind.i64 :: [].append [])))
 [PV.int .i64 n78, PV.int .i64 s70.2.2.2.1, PV.int .i64 0] =
 true then
 some
 !peqL [cell e79 0, cell e79 1, cell e79 2]
 [PV.int .i64 n78, PV.int .i64 s70.2.2.2.1, PV.int .i64 0]
 else none
 else none).bind
 fun r80 =>
 if r80 = true then
 if
 (s70.2.2.2.2.2.2.2.2.2.2.2.1 ++
 [PV.agg
 [PV.int .i64 n78, PV.int .i64 s70.2.2.2.1,
 PV.int .i64 0]]).length *
 24 ≤
 roomBound ∧
 0 < 24 then
 rec71
 (PV.agg [cell s70.1 0], PV.agg [cell s70.2.1 0], s70.2.2.1,
 IntKind.i64.wrap (s70.2.2.2.1 + 1),
 [s70.2.2.2.2.1.getD 0 .bad, s70.2.2.2.2.1.getD 1 .bad,
 s70.2.2.2.2.1.getD 2 .bad],
 [s70.2.2.2.2.2.1.getD 0 .bad, s70.2.2.2.2.2.1.getD 1 .bad,
 s70.2.2.2.2.2.1.getD 2 .bad],
 [s70.2.2.2.2.2.2.1.getD 0 .bad, s70.2.2.2.2.2.2.1.getD 1 .bad,
 s70.2.2.2.2.2.2.1.getD 2 .bad],
 [s70.2.2.2.2.2.2.2.1.getD 0 .bad,
 s70.2.2.2.2.2.2.2.1.getD 1 .bad,
 s70.2.2.2.2.2.2.2.1.getD 2 .bad],
 [s70.2.2.2.2.2.2.2.2.1.getD 0 .bad,
 s70.2.2.2.2.2.2.2.2.1.getD 1 .bad,
 s70.2.2.2.2.2.2.2.2.1.getD 2 .bad,
 s70.2.2.2.2.2.2.2.2.1.getD 3 .bad,
 s70.2.2.2.2.2.2.2.2.1.getD 4 .bad,
 s70.2.2.2.2.2.2.2.2.1.getD 5 .bad,
 s70.2.2.2.2.2.2.2.2.1.getD 6 .bad,
 s70.2.2.2.2.2.2.2.2.1.getD 7 .bad,
 s70.2.2.2.2.2.2.2.2.1.getD 8 .bad,
 s70.2.2.2.2.2.2.2.2.1.getD 9 .bad,
 s70.2.2.2.2.2.2.2.2.1.getD 10 .bad,
 s70.2.2.2.2.2.2.2.2.1.getD 11 .bad,
 s70.2.2.2.2.2.2.2.2.1.getD 12 .bad,
 s70.2.2.2.2.2.2.2.2.1.getD 13 .bad],
 [s70.2.2.2.2.2.2.2.2.2.1.getD 0 .bad,
 s70.2.2.2.2.2.2.2.2.2.1.getD 1 .bad,
 s70.2.2.2.2.2.2.2.2.2.1.getD 2 .bad],
 [s70.2.2.2.2.2.2.2.2.2.2.1.getD 0 .bad,
 s70.2.2.2.2.2.2.2.2.2.2.1.getD 1 .bad,
 s70.2.2.2.2.2.2.2.2.2.2.1.getD 2 .bad],
 s70.2.2.2.2.2.2.2.2.2.2.2.1 ++
 [PV.agg [PV.int .i64 n78, PV.int .i64 s70.2.2.2.1, PV.int .i64 0]],
 ())
 else none
 else
 rec71
 (PV.agg [cell s70.1 0], PV.agg [cell s70.2.1 0], s70.2.2.1,
 IntKind.i64.wrap (s70.2.2.2.1 + 1),
 [s70.2.2.2.2.1.getD 0 .bad, s70.2.2.2.2.1.getD 1 .bad,
 s70.2.2.2.2.1.getD 2 .bad],
 [s70.2.2.2.2.2.1.getD 0 .bad, s70.2.2.2.2.2.1.getD 1 .bad,
 s70.2.2.2.2.2.1.getD 2 .bad],
 [s70.2.2.2.2.2.2.1.getD 0 .bad, s70.2.2.2.2.2.2.1.getD 1 .bad,
 s70.2.2.2.2.2.2.1.getD 2 .bad],
 [s70.2.2.2.2.2.2.2.1.getD 0 .bad, s70.2.2.2.2.2.2.2.1.getD 1 .bad,
 s70.2.2.2.2.2.2.2.1.getD 2 .bad],
 [s70.2.2.2.2.2.2.2.2.1.getD 0 .bad,
 s70.2.2.2.2.2.2.2.2.1.getD 1 .bad,
 s70.2.2.2.2.2.2.2.2.1.getD 2 .bad,
 s70.2.2.2.2.2.2.2.2.1.getD 3 .bad,
 s70.2.2.2.2.2.2.2.2.1.getD 4 .bad,
 s70.2.2.2.2.2.2.2.2.1.getD 5 .bad,
 s70.2.2.2.2.2.2.2.2.1.getD 6 .bad,
 s70.2.2.2.2.2.2.2.2.1.getD 7 .bad,
 s70.2.2.2.2.2.2.2.2.1.getD 8 .bad,
 s70.2.2.2.2.2.2.2.2.1.getD 9 .bad,
 s70.2.2.2.2.2.2.2.2.1.getD 10 .bad,
 s70.2.2.2.2.2.2.2.2.1.getD 11 .bad,
 s70.2.2.2.2.2.2.2.2.1.getD 12 .bad,
 s70.2.2.2.2.2.2.2.2.1.getD 13 .bad],
 [s70.2.2.2.2.2.2.2.2.2.1.getD 0 .bad,
 s70.2.2.2.2.2.2.2.2.2.1.getD 1 .bad,
 s70.2.2.2.2.2.2.2.2.2.1.getD 2 .bad],
 [s70.2.2.2.2.2.2.2.2.2.2.1.getD 0 .bad,
 s70.2.2.2.2.2.2.2.2.2.2.1.getD 1 .bad,
 s70.2.2.2.2.2.2.2.2.2.2.1.getD 2 .bad],
 s70.2.2.2.2.2.2.2.2.2.2.2.1, ())
 else
 rec71
 (PV.agg [cell s70.1 0], PV.agg [cell s70.2.1 0], s70.2.2.1,
 IntKind.i64.wrap (s70.2.2.2.1 + 1),
 [s70.2.2.2.2.1.getD 0 .bad, s70.2.2.2.2.1.getD 1 .bad,
 s70.2.2.2.2.1.getD 2 .bad],
 [s70.2.2.2.2.2.1.getD 0 .bad, s70.2.2.2.2.2.1.getD 1 .bad,
 s70.2.2.2.2.2.1.getD 2 .bad],
 [s70.2.2.2.2.2.2.1.getD 0 .bad, s70.2.2.2.2.2.2.1.getD 1 .bad,
 s70.2.2.2.2.2.2.1.getD 2 .bad],
 [s70.2.2.2.2.2.2.2.1.getD 0 .bad, s70.2.2.2.2.2.2.2.1.getD 1 .bad,
 s70.2.2.2.2.2.2.2.1.getD 2 .bad],
 [s70.2.2.2.2.2.2.2.2.1.getD 0 .bad,
 s70.2.2.2.2.2.2.2.2.1.getD 1 .bad,
 s70.2.2.2.2.2.2.2.2.1.getD 2 .bad,
 s70.2.2.2.2.2.2.2.2.1.getD 3 .bad,
 s70.2.2.2.2.2.2.2.2.1.getD 4 .bad,
 s70.2.2.2.2.2.2.2.2.1.getD 5 .bad,
 s70.2.2.2.2.2.2.2.2.1.getD 6 .bad,
 s70.2.2.2.2.2.2.2.2.1.getD 7 .bad,
 s70.2.2.2.2.2.2.2.2.1.getD 8 .bad,
 s70.2.2.2.2.2.2.2.2.1.getD 9 .bad,
 s70.2.2.2.2.2.2.2.2.1.getD 10 .bad,
 s70.2.2.2.2.2.2.2.2.1.getD 11 .bad,
 s70.2.2.2.2.2.2.2.2.1.getD 12 .bad,
 s70.2.2.2.2.2.2.2.2.1.getD 13 .bad],
 [s70.2.2.2.2.2.2.2.2.2.1.getD 0 .bad,
 s70.2.2.2.2.2.2.2.2.2.1.getD 1 .bad,
 s70.2.2.2.2.2.2.2.2.2.1.getD 2 .bad],
 [s70.2.2.2.2.2.2.2.2.2.2.1.getD 0 .bad,
 s70.2.2.2.2.2.2.2.2.2.2.1.getD 1 .bad,
 s70.2.2.2.2.2.2.2.2.2.2.1.getD 2 .bad],
 s70.2.2.2.2.2.2.2.2.2.2.2.1, ())
else
 (asSl 5 (s70.2.2.2.2.2.2.2.2.1.getD 4 .bad)).bind fun es81 =>
 L.run (lint_Warnings_L4 L)
 (PV.agg
 [s70.2.2.2.2.2.2.2.2.1.getD 0 .bad, s70.2.2.2.2.2.2.2.2.1.getD 1 .bad,
 s70.2.2.2.2.2.2.2.2.1.getD 2 .bad,
 s70.2.2.2.2.2.2.2.2.1.getD 3 .bad,
 s70.2.2.2.2.2.2.2.2.1.getD 4 .bad,
 s70.2.2.2.2.2.2.2.2.1.getD 5 .bad,
 s70.2.2.2.2.2.2.2.2.1.getD 6 .bad,
 s70.2.2.2.2.2.2.2.2.1.getD 7 .bad,
 s70.2.2.2.2.2.2.2.2.1.getD 8 .bad,
 s70.2.2.2.2.2.2.2.2.1.getD 9 .bad,
 s70.2.2.2.2.2.2.2.2.1.getD 10 .bad,
 s70.2.2.2.2.2.2.2.2.1.getD 11 .bad,
 s70.2.2.2.2.2.2.2.2.1.getD 12 .bad],
 [s70.2.2.2.2.2.2.2.2.1.getD 13 .bad], es81, (↑es81.length : Int), 0,
 [s70.2.2.2.2.1.getD 0 .bad, s70.2.2.2.2.1.getD 1 .bad,
 s70.2.2.2.2.1.getD 2 .bad],
 [s70.2.2.2.2.2.1.getD 0 .bad, s70.2.2.2.2.2.1.getD 1 .bad,
 s70.2.2.2.2.2.1.getD 2 .bad],
 [s70.2.2.2.2.2.2.1.getD 0 .bad, s70.2.2.2.2.2.2.1.getD 1 .bad,
 s70.2.2.2.2.2.2.1.getD 2 .bad],
 [s70.2.2.2.2.2.2.2.1.getD 0 .bad, s70.2.2.2.2.2.2.2.1.getD 1 .bad,
 s70.2.2.2.2.2.2.2.1.getD 2 .bad],
 [s70.2.2.2.2.2.2.2.2.1.getD 0 .bad, s70.2.2.2.2.2.2.2.2.1.getD 1 .bad,
 s70.2.2.2.2.2.2.2.2.1.getD 2 .bad, s70.2.2.2.2.2.2.2.2.1.getD 3 .bad,
 s70.2.2.2.2.2.2.2.2.1.getD 4 .bad, s70.2.2.2.2.2.2.2.2.1.getD 5 .bad,
 s70.2.2.2.2.2.2.2.2.1.getD 6 .bad, s70.2.2.2.2.2.2.2.2.1.getD 7 .bad,
 s70.2.2.2.2.2.2.2.2.1.getD 8 .bad, s70.2.2.2.2.2.2.2.2.1.getD 9 .bad,
 s70.2.2.2.2.2.2.2.2.1.getD 10 .bad,
 s70.2.2.2.2.2.2.2.2.1.getD 11 .bad,
 s70.2.2.2.2.2.2.2.2.1.getD 12 .bad,
 s70.2.2.2.2.2.2.2.2.1.getD 13 .bad],
 [s70.2.2.2.2.2.2.2.2.2.1.getD 0 .bad,
 s70.2.2.2.2.2.2.2.2.2.1.getD 1 .bad,
 s70.2.2.2.2.2.2.2.2.2.1.getD 2 .bad],
 [s70.2.2.2.2.2.2.2.2.2.2.1.getD 0 .bad,
 s70.2.2.2.2.2.2.2.2.2.2.1.getD 1 .bad,
 s70.2.2.2.2.2.2.2.2.2.2.1.getD 2 .bad],
 s70.2.2.2.2.2.2.2.2.2.2.2.1, ())
def lint_Warnings_L6 (L : Lps) : (PV × PV × Int × Int × List PV × List PV × List PV × List PV × List PV × List PV × List PV × List PV × Unit) → (PV × PV × Int × Int × List PV × List PV × List PV × List PV × List PV × List PV × List PV × List PV × Unit → Option PV) → Option PV := fun s58 rec59 =>
 if decide (s58.2.2.2.1 < s58.2.2.1) = true then
 mapCase 3 (cell s58.1 0)
 ((Ab.asInt .i64 (cell s58.2.1 0)).bind fun n60 =>
 (bif (↑s58.2.2.2.2.2.2.2.2.2.2.2.1.length : Int) == 0 then some true
 else
 if
 inRange (IntKind.i64.wrap ((↑s58.2.2.2.2.2.2.2.2.2.2.2.1.length : Int) - 1))
 s58.2.2.2.2.2.2.2.2.2.2.2.1.length then
 s58.2.2.2.2.2.2.2.2.2.2.2.1[(IntKind.i64.wrap
 ((↑s58.2.2.2.2.2.2.2.2.2.2.2.1.length : Int) - 1)).toNat]?.bind
 fun e61 =>
 if
 chk
 (Kd.int IntKind.i64 ::
 [].append (Kd.int IntKind.i64 :: [].append (Kd.int IntKind.i64 :: [].append [])))
 [cell e61 0, cell e61 1, cell e61 2] =
 true ∧
 chk
 (Kd.int IntKind.i64 ::
 [].append (Kd.int IntKind.i64 :: [].append (Kd.int IntKind.i64 :: [].append [])))
 [PV.int .i64 n60, PV.int .i64 s58.2.2.2.1, PV.int .i64 0] =
 true then
 some
 !peqL [cell e61 0, cell e61 1, cell e61 2]
 [PV.int .i64 n60, PV.int .i64 s58.2.2.2.1, PV.int .i64 0]
 else none
 else none).bind
 fun r62 =>
 if r62 = true then
 if
 (s58.2.2.2.2.2.2.2.2.2.2.2.1 ++
 [PV.agg
 [PV.int .i64 n60, PV.int .i64 s58.2.2.2.1,
 PV.int .i64 0]]).length *
 24 ≤
 roomBound ∧
 0 < 24 then
 rec59
 (PV.agg [cell s58.1 0], PV.agg [cell s58.2.1 0], s58.2.2.1,
 IntKind.i64.wrap (s58.2.2.2.1 + 1),
 [s58.2.2.2.2.1.getD 0 .bad, s58.2.2.2.2.1.getD 1 .bad,
 s58.2.2.2.2.1.getD 2 .bad],
 [s58.2.2.2.2.2.1.getD 0 .bad, s58.2.2.2.2.2.1.getD 1 .bad,
 s58.2.2.2.2.2.1.getD 2 .bad],
 [s58.2.2.2.2.2.2.1.getD 0 .bad, s58.2.2.2.2.2.2.1.getD 1 .bad,
 s58.2.2.2.2.2.2.1.getD 2 .bad],
 [s58.2.2.2.2.2.2.2.1.getD 0 .bad, s58.2.2.2.2.2.2.2.1.getD 1 .bad,
 s58.2.2.2.2.2.2.2.1.getD 2 .bad],
 [s58.2.2.2.2.2.2.2.2.1.getD 0 .bad,
 s58.2.2.2.2.2.2.2.2.1.getD 1 .bad,
 s58.2.2.2.2.2.2.2.2.1.getD 2 .bad,
 s58.2.2.2.2.2.2.2.2.1.getD 3 .bad,
 s58.2.2.2.2.2.2.2.2.1.getD 4 .bad,
 s58.2.2.2.2.2.2.2.2.1.getD 5 .bad,
 s58.2.2.2.2.2.2.2.2.1.getD 6 .bad,
 s58.2.2.2.2.2.2.2.2.1.getD 7 .bad,
 s58.2.2.2.2.2.2.2.2.1.getD 8 .bad,
 s58.2.2.2.2.2.2.2.2.1.getD 9 .bad,
 s58.2.2.2.2.2.2.2.2.1.getD 10 .bad,
 s58.2.2.2.2.2.2.2.2.1.getD 11 .bad,
 s58.2.2.2.2.2.2.2.2.1.getD 12 .bad,
 s58.2.2.2.2.2.2.2.2.1.getD 13 .bad],
 [s58.2.2.2.2.2.2.2.2.2.1.getD 0 .bad,
 s58.2.2.2.2.2.2.2.2.2.1.getD 1 .bad,
 s58.2.2.2.2.2.2.2.2.2.1.getD 2 .bad],
 [s58.2.2.2.2.2.2.2.2.2.2.1.getD 0 .bad,
 s58.2.2.2.2.2.2.2.2.2.2.1.getD 1 .bad,
 s58.2.2.2.2.2.2.2.2.2.2.1.getD 2 .bad],
 s58.2.2.2.2.2.2.2.2.2.2.2.1 ++
 [PV.agg [PV.int .i64 n60, PV.int .i64 s58.2.2.2.1, PV.int .i64 0]],
 ())
 else none
 else
 rec59
 (PV.agg [cell s58.1 0], PV.agg [cell s58.2.1 0], s58.2.2.1,
 IntKind.i64.wrap (s58.2.2.2.1 + 1),
 [s58.2.2.2.2.1.getD 0 .bad, s58.2.2.2.2.1.getD 1 .bad,
 s58.2.2.2.2.1.getD 2 .bad],
 [s58.2.2.2.2.2.1.getD 0 .bad, s58.2.2.2.2.2.1.getD 1 .bad,
 s58.2.2.2.2.2.1.getD 2 .bad],
 [s58.2.2.2.2.2.2.1.getD 0 .bad, s58.2.2.2.2.2.2.1.getD 1 .bad,
 s58.2.2.2.2.2.2.1.getD 2 .bad],
 [s58.2.2.2.2.2.2.2.1.getD 0 .bad, s58.2.2.2.2.2.2.2.1.getD 1 .bad,
 s58.2.2.2.2.2.2.2.1.getD 2 .bad],
 [s58.2.2.2.2.2.2.2.2.1.getD 0 .bad,
 s58.2.2.2.2.2.2.2.2.1.getD 1 .bad,
 s58.2.2.2.2.2.2.2.2.1.getD 2 .bad,
 s58.2.2.2.2.2.2.2.2.1.getD 3 .bad,
 s58.2.2.2.2.2.2.2.2.1.getD 4 .bad,
 s58.2.2.2.2.2.2.2.2.1.getD 5 .bad,
 s58.2.2.2.2.2.2.2.2.1.getD 6 .bad,
 s58.2.2.2.2.2.2.2.2.1.getD 7 .bad,
 s58.2.2.2.2.2.2.2.2.1.getD 8 .bad,
 s58.2.2.2.2.2.2.2.2.1.getD 9 .bad,
 s58.2.2.2.2.2.2.2.2.1.getD 10 .bad,
 s58.2.2.2.2.2.2.2.2.1.getD 11 .bad,
 s58.2.2.2.2.2.2.2.2.1.getD 12 .bad,
 s58.2.2.2.2.2.2.2.2.1.getD 13 .bad],
 [s58.2.2.2.2.2.2.2.2.2.1.getD 0 .bad,
 s58.2.2.2.2.2.2.2.2.2.1.getD 1 .bad,
 s58.2.2.2.2.2.2.2.2.2.1.getD 2 .bad],
 [s58.2.2.2.2.2.2.2.2.2.2.1.getD 0 .bad,
 s58.2.2.2.2.2.2.2.2.2.2.1.getD 1 .bad,
 s58.2.2.2.2.2.2.2.2.2.2.1.getD 2 .bad],
 s58.2.2.2.2.2.2.2.2.2.2.2.1, ()))
 fun ks63 vs64 =>
 (Ab.asBool (mlook (PV.int .i64 s58.2.2.2.1) (PV.bool false) (ks63.zip vs64))).bind fun b65 =>
 bif sameB true !b65 then
 (Ab.asInt .i64 (cell s58.2.1 0)).bind fun n66 =>
 (bif (↑s58.2.2.2.2.2.2.2.2.2.2.2.1.length : Int) == 0 then some true
 else
 if
 inRange (IntKind.i64.wrap ((↑s58.2.2.2.2.2.2.2.2.2.2.2.1.length : Int) - 1))
 s58.2.2.2.2.2.2.2.2.2.2.2.1.length then
 s58.2.2.2.2.2.2.2.2.2.2.2.1[(IntKind.i64.wrap
 ((↑s58.2.2.2.2.2.2.2.2.2.2.2.1.length : Int) - 1)).toNat]?.bind
 fun e67 =>
 if
 chk
 (Kd.int IntKind.i64 ::
 [].append (Kd.int IntKind.i64 :: [].append (Kd.int IntKind.i64 :: [].append [])))
 [cell e67 0, cell e67 1, cell e67 2] =
 true ∧
 chk
 (Kd.int IntKind.i64 ::
 [].append (Kd.int IntKind.i64 :: [].append (Kd.int IntKind.i64 :: [].append [])))
 [PV.int .i64 n66, PV.int .i64 s58.2.2.2.1, PV.int .i64 0] =
 true then
 some
 !peqL [cell e67 0, cell e67 1, cell e67 2]
 [PV.int .i64 n66, PV.int .i64 s58.2.2.2.1, PV.int .i64 0]
 else none
 else none).bind
 fun r68 =>
 if r68 = true then
 if
 (s58.2.2.2.2.2.2.2.2.2.2.2.1 ++
 [PV.agg
 [PV.int .i64 n66, PV.int .i64 s58.2.2.2.1,
 PV.int .i64 0]]).length *
 24 ≤
 roomBound ∧
 0 < 24 then
 rec59
 (PV.agg [cell s58.1 0], PV.agg [cell s58.2.1 0], s58.2.2.1,
 IntKind.i64.wrap (s58.2.2.2.1 + 1),
 [s58.2.2.2.2.1.getD 0 .bad, s58.2.2.2.2.1.getD 1 .bad,
 s58.2.2.2.2.1.getD 2 .bad],
 [s58.2.2.2.2.2.1.getD 0 .bad, s58.2.2.2.2.2.1.getD 1 .bad,
 s58.2.2.2.2.2.1.getD 2 .bad],
 [s58.2.2.2.2.2.2.1.getD 0 .bad, s58.2.2.2.2.2.2.1.getD 1 .bad,
 s58.2.2.2.2.2.2.1.getD 2 .bad],
 [s58.2.2.2.2.2.2.2.1.getD 0 .bad,
 s58.2.2.2.2.2.2.2.1.getD 1 .bad,
 s58.2.2.2.2.2.2.2.1.getD 2 .bad],
 [s58.2.2.2.2.2.2.2.2.1.getD 0 .bad,
 s58.2.2.2.2.2.2.2.2.1.getD 1 .bad,
 s58.2.2.2.2.2.2.2.2.1.getD 2 .bad,
 s58.2.2.2.2.2.2.2.2.1.getD 3 .bad,
 s58.2.2.2.2.2.2.2.2.1.getD 4 .bad,
 s58.2.2.2.2.2.2.2.2.1.getD 5 .bad,
 s58.2.2.2.2.2.2.2.2.1.getD 6 .bad,
 s58.2.2.2.2.2.2.2.2.1.getD 7 .bad,
 s58.2.2.2.2.2.2.2.2.1.getD 8 .bad,
 s58.2.2.2.2.2.2.2.2.1.getD 9 .bad,
 s58.2.2.2.2.2.2.2.2.1.getD 10 .bad,
 s58.2.2.2.2.2.2.2.2.1.getD 11 .bad,
 s58.2.2.2.2.2.2.2.2.1.getD 12 .bad,
 s58.2.2.2.2.2.2.2.2.1.getD 13 .bad],
 [s58.2.2.2.2.2.2.2.2.2.1.getD 0 .bad,
 s58.2.2.2.2.2.2.2.2.2.1.getD 1 .bad,
 s58.2.2.2.2.2.2.2.2.2.1.getD 2 .bad],
 [s58.2.2.2.2.2.2.2.2.2.2.1.getD 0 .bad,
 s58.2.2.2.2.2.2.2.2.2.2.1.getD 1 .bad,
 s58.2.2.2.2.2.2.2.2.2.2.1.getD 2 .bad],
 s58.2.2.2.2.2.2.2.2.2.2.2.1 ++
 [PV.agg [PV.int .i64 n66, PV.int .i64 s58.2.2.2.1, PV.int .i64 0]],
 ())
 else none
 else
 rec59
 (PV.agg [cell s58.1 0], PV.agg [cell s58.2.1 0], s58.2.2.1,
 IntKind.i64.wrap (s58.2.2.2.1 + 1),
 [s58.2.2.2.2.1.getD 0 .bad, s58.2.2.2.2.1.getD 1 .bad,
 s58.2.2.2.2.1.getD 2 .bad],
 [s58.2.2.2.2.2.1.getD 0 .bad, s58.2.2.2.2.2.1.getD 1 .bad,
 s58.2.2.2.2.2.1.getD 2 .bad],
 [s58.2.2.2.2.2.2.1.getD 0 .bad, s58.2.2.2.2.2.2.1.getD 1 .bad,
 s58.2.2.2.2.2.2.1.getD 2 .bad],
 [s58.2.2.2.2.2.2.2.1.getD 0 .bad, s58.2.2.2.2.2.2.2.1.getD 1 .bad,
 s58.2.2.2.2.2.2.2.1.getD 2 .bad],
 [s58.2.2.2.2.2.2.2.2.1.getD 0 .bad,
 s58.2.2.2.2.2.2.2.2.1.getD 1 .bad,
 s58.2.2.2.2.2.2.2.2.1.getD 2 .bad,
 s58.2.2.2.2.2.2.2.2.1.getD 3 .bad,
 s58.2.2.2.2.2.2.2.2.1.getD 4 .bad,
 s58.2.2.2.2.2.2.2.2.1.getD 5 .bad,
 s58.2.2.2.2.2.2.2.2.1.getD 6 .bad,
 s58.2.2.2.2.2.2.2.2.1.getD 7 .bad,
 s58.2.2.2.2.2.2.2.2.1.getD 8 .bad,
 s58.2.2.2.2.2.2.2.2.1.getD 9 .bad,
 s58.2.2.2.2.2.2.2.2.1.getD 10 .bad,
 s58.2.2.2.2.2.2.2.2.1.getD 11 .bad,
 s58.2.2.2.2.2.2.2.2.1.getD 12 .bad,
 s58.2.2.2.2.2.2.2.2.1.getD 13 .bad],
 [s58.2.2.2.2.2.2.2.2.2.1.getD 0 .bad,
 s58.2.2.2.2.2.2.2.2.2.1.getD 1 .bad,
 s58.2.2.2.2.2.2.2.2.2.1.getD 2 .bad],
 [s58.2.2.2.2.2.2.2.2.2.2.1.getD 0 .bad,
 s58.2.2.2.2.2.2.2.2.2.2.1.getD 1 .bad,
 s58.2.2.2.2.2.2.2.2.2.2.1.getD 2 .bad],
 s58.2.2.2.2.2.2.2.2.2.2.2.1, ())
 else
 rec59
 (PV.agg [cell s58.1 0], PV.agg [cell s58.2.1 0], s58.2.2.1,
 IntKind.i64.wrap (s58.2.2.2.1 + 1),
 [s58.2.2.2.2.1.getD 0 .bad, s58.2.2.2.2.1.getD 1 .bad,
 s58.2.2.2.2.1.getD 2 .bad],
 [s58.2.2.2.2.2.1.getD 0 .bad, s58.2.2.2.2.2.1.getD 1 .bad,
 s58.2.2.2.2.2.1.getD 2 .bad],
 [s58.2.2.2.2.2.2.1.getD 0 .bad, s58.2.2.2.2.2.2.1.getD 1 .bad,
 s58.2.2.2.2.2.2.1.getD 2 .bad],
 [s58.2.2.2.2.2.2.2.1.getD 0 .bad, s58.2.2.2.2.2.2.2.1.getD 1 .bad,
 s58.2.2.2.2.2.2.2.1.getD 2 .bad],
 [s58.2.2.2.2.2.2.2.2.1.getD 0 .bad,
 s58.2.2.2.2.2.2.2.2.1.getD 1 .bad,
 s58.2.2.2.2.2.2.2.2.1.getD 2 .bad,
 s58.2.2.2.2.2.2.2.2.1.getD 3 .bad,
 s58.2.2.2.2.2.2.2.2.1.getD 4 .bad,
 s58.2.2.2.2.2.2.2.2.1.getD 5 .bad,
 s58.2.2.2.2.2.2.2.2.1.getD 6 .bad,
 s58.2.2.2.2.2.2.2.2.1.getD 7 .bad,
 s58.2.2.2.2.2.2.2.2.1.getD 8 .bad,
 s58.2.2.2.2.2.2.2.2.1.getD 9 .bad,
 s58.2.2.2.2.2.2.2.2.1.getD 10 .bad,
 s58.2.2.2.2.2.2.2.2.1.getD 11 .bad,
 s58.2.2.2.2.2.2.2.2.1.getD 12 .bad,
 s58.2.2.2.2.2.2.2.2.1.getD 13 .bad],
 [s58.2.2.2.2.2.2.2.2.2.1.getD 0 .bad,
 s58.2.2.2.2.2.2.2.2.2.1.getD 1 .bad,
 s58.2.2.2.2.2.2.2.2.2.1.getD 2 .bad],
 [s58.2.2.2.2.2.2.2.2.2.2.1.getD 0 .bad,
 s58.2.2.2.2.2.2.2.2.2.2.1.getD 1 .bad,
 s58.2.2.2.2.2.2.2.2.2.2.1.getD 2 .bad],
 s58.2.2.2.2.2.2.2.2.2.2.2.1, ())
else
 (Ab.asInt .i64 (s58.2.2.2.2.2.2.2.1.getD 0 .bad)).bind fun n69 =>
 L.run (lint_Warnings_L5 L)
 (PV.agg [s58.2.2.2.2.2.2.2.1.getD 1 .bad],
 PV.agg [s58.2.2.2.2.2.2.2.1.getD 2 .bad], n69, 0,
 [s58.2.2.2.2.1.getD 0 .bad, s58.2.2.2.2.1.getD 1 .bad,
 s58.2.2.2.2.1.getD 2 .bad],
 [s58.2.2.2.2.2.1.getD 0 .bad, s58.2.2.2.2.2.1.getD 1 .bad,
 s58.2.2.2.2.2.1.getD 2 .bad],
 [s58.2.2.2.2.2.2.1.getD 0 .bad, s58.2.2.2.2.2.2.1.getD 1 .bad,
 s58.2.2.2.2.2.2.1.getD 2 .bad],
 [s58.2.2.2.2.2.2.2.1.getD 0 .bad, s58.2.2.2.2.2.2.2.1.getD 1 .bad,
 s58.2.2.2.2.2.2.2.1.getD 2 .bad],
 [s58.2.2.2.2.2.2.2.2.1.getD 0 .bad, s58.2.2.2.2.2.2.2.2.1.getD 1 .bad,
 s58.2.2.2.2.2.2.2.2.1.getD 2 .bad, s58.2.2.2.2.2.2.2.2.1.getD 3 .bad,
 s58.2.2.2.2.2.2.2.2.1.getD 4 .bad, s58.2.2.2.2.2.2.2.2.1.getD 5 .bad,
 s58.2.2.2.2.2.2.2.2.1.getD 6 .bad, s58.2.2.2.2.2.2.2.2.1.getD 7 .bad,
 s58.2.2.2.2.2.2.2.2.1.getD 8 .bad, s58.2.2.2.2.2.2.2.2.1.getD 9 .bad,
 s58.2.2.2.2.2.2.2.2.1.getD 10 .bad,
 s58.2.2.2.2.2.2.2.2.1.getD 11 .bad,
 s58.2.2.2.2.2.2.2.2.1.getD 12 .bad,
 s58.2.2.2.2.2.2.2.2.1.getD 13 .bad],
 [s58.2.2.2.2.2.2.2.2.2.1.getD 0 .bad,
 s58.2.2.2.2.2.2.2.2.2.1.getD 1 .bad,
 s58.2.2.2.2.2.2.2.2.2.1.getD 2 .bad],
 [s58.2.2.2.2.2.2.2.2.2.2.1.getD 0 .bad,
 s58.2.2.2.2.2.2.2.2.2.2.1.getD 1 .bad,
 s58.2.2.2.2.2.2.2.2.2.2.1.getD 2 .bad],
 s58.2.2.2.2.2.2.2.2.2.2.2.1, ())
def lint_Warnings_L7 (L : Lps) : (PV × PV × Int × Int × List PV × List PV × List PV × List PV × List PV × List PV × List PV × List PV × Unit) → (PV × PV × Int × Int × List PV × List PV × List PV × List PV × List PV × List PV × List PV × List PV × Unit → Option PV) → Option PV := fun s46 rec47 =>
 if decide (s46.2.2.2.1 < s46.2.2.1) = true then
 mapCase 3 (cell s46.1 0)
 ((Ab.asInt .i64 (cell s46.2.1 0)).bind fun n48 =>
 (bif (↑s46.2.2.2.2.2.2.2.2.2.2.2.1.length : Int) == 0 then some true
 else
 if
 inRange (IntKind.i64.wrap ((↑s46.2.2.2.2.2.2.2.2.2.2.2.1.length : Int) - 1))
 s46.2.2.2.2.2.2.2.2.2.2.2.1.length then
 s46.2.2.2.2.2.2.2.2.2.2.2.1[(IntKind.i64.wrap
 ((↑s46.2.2.2.2.2.2.2.2.2.2.2.1.length : Int) - 1)).toNat]?.bind
 fun e49 =>
 if
 chk
 (Kd.int IntKind.i64 ::
 [].append (Kd.int IntKind.i64 :: [].append (Kd.int IntKind.i64 :: [].append [])))
 [cell e49 0, cell e49 1, cell e49 2] =
 true ∧
 chk
 (Kd.int IntKind.i64 ::
 [].append (Kd.int IntKind.i64 :: [].append (Kd.int IntKind.i64 :: [].append [])))
 [PV.int .i64 n48, PV.int .i64 s46.2.2.2.1, PV.int .i64 0] =
 true then
 some
 !peqL [cell e49 0, cell e49 1, cell e49 2]
 [PV.int .i64 n48, PV.int .i64 s46.2.2.2.1, PV.int .i64 0]
 else none
 else none).bind
 fun r50 =>
 if r50 = true then
 if
 (s46.2.2.2.2.2.2.2.2.2.2.2.1 ++
 [PV.agg
 [PV.int .i64 n48, PV.int .i64 s46.2.2.2.1,
 PV.int .i64 0]]).length *
 24 ≤
 roomBound ∧
 0 < 24 then
 rec47
 (PV.agg [cell s46.1 0], PV.agg [cell s46.2.1 0], s46.2.2.1,
 IntKind.i64.wrap (s46.2.2.2.1 + 1),
 [s46.2.2.2.2.1.getD 0 .bad, s46.2.2.2.2.1.getD 1 .bad,
 s46.2.2.2.2.1.getD 2 .bad],
 [s46.2.2.2.2.2.1.getD 0 .bad, s46.2.2.2.2.2.1.getD 1 .bad,
 s46.2.2.2.2.2.1.getD 2 .bad],
 [s46.2.2.2.2.2.2.1.getD 0 .bad, s46.2.2.2.2.2.2.1.getD 1 .bad,
 s46.2.2.2.2.2.2.1.getD 2 .bad],
 [s46.2.2.2.2.2.2.2.1.getD 0 .bad, s46.2.2.2.2.2.2.2.1.getD 1 .bad,
 s46.2.2.2.2.2.2.2.1.getD 2 .bad],
 [s46.2.2.2.2.2.2.2.2.1.getD 0 .bad,
 s46.2.2.2.2.2.2.2.2.1.getD 1 .bad,
 s46.2.2.2.2.2.2.2.2.1.getD 2 .bad,
 s46.2.2.2.2.2.2.2.2.1.getD 3 .bad,
 s46.2.2.2.2.2.2.2.2.1.getD 4 .bad,
 s46.2.2.2.2.2.2.2.2.1.getD 5 .bad,
 s46.2.2.2.2.2.2.2.2.1.getD 6 .bad,
 s46.2.2.2.2.2.2.2.2.1.getD 7 .bad,
 s46.2.2.2.2.2.2.2.2.1.getD 8 .bad,
 s46.2.2.2.2.2.2.2.2.1.getD 9 .bad,
 s46.2.2.2.2.2.2.2.2.1.getD 10 .bad,
 s46.2.2.2.2.2.2.2.2.1.getD 11 .bad,
 s46.2.2.2.2.2.2.2.2.1.getD 12 .bad,
 s46.2.2.2.2.2.2.2.2.1.getD 13 .bad],
 [s46.2.2.2.2.2.2.2.2.2.1.getD 0 .bad,
 s46.2.2.2.2.2.2.2.2.2.1.getD 1 .bad,
 s46.2.2.2.2.2.2.2.2.2.1.getD 2 .bad],
 [s46.2.2.2.2.2.2.2.2.2.2.1.getD 0 .bad,
 s46.2.2.2.2.2.2.2.2.2.2.1.getD 1 .bad,
 s46.2.2.2.2.2.2.2.2.2.2.1.getD 2 .bad],
 s46.2.2.2.2.2.2.2.2.2.2.2.1 ++
 [PV.agg [PV.int .i64 n48, PV.int .i64 s46.2.2.2.1, PV.int .i64 0]],
 ())
 else none
 else
 rec47
 (PV.agg [cell s46.1 0], PV.agg [cell s46.2.1 0], s46.2.2.1,
 IntKind.i64.wrap (s46.2.2.2.1 + 1),
 [s46.2.2.2.2.1.getD 0 .bad, s46.2.2.2.2.1.getD 1 .bad,
 s46.2.2.2.2.1.getD 2 .bad],
 [s46.2.2.2.2.2.1.getD 0 .bad, s46.2.2.2.2.2.1.getD 1 .bad,
 s46.2.2.2.2.2.1.getD 2 .bad],
 [s46.2.2.2.2.2.2.1.getD 0 .bad, s46.2.2.2.2.2.2.1.getD 1 .bad,
 s46.2.2.2.2.2.2.1.getD 2 .bad],
 [s46.2.2.2.2.2.2.2.1.getD 0 .bad, s46.2.2.2.2.2.2.2.1.getD 1 .bad,
 s46.2.2.2.2.2.2.2.1.getD 2 .bad],
 [s46.2.2.2.2.2.2.2.2.1.getD 0 .bad,
 s46.2.2.2.2.2.2.2.2.1.getD 1 .bad,
 s46.2.2.2.2.2.2.2.2.1.getD 2 .bad,
 s46.2.2.2.2.2.2.2.2.1.getD 3 .bad,
 s46.2.2.2.2.2.2.2.2.1.getD 4 .bad,
 s46.2.2.2.2.2.2.2.2.1.getD 5 .bad,
 s46.2.2.2.2.2.2.2.2.1.getD 6 .bad,
 s46.2.2.2.2.2.2.2.2.1.getD 7 .bad,
 s46.2.2.2.2.2.2.2.2.1.getD 8 .bad,
 s46.2.2.2.2.2.2.2.2.1.getD 9 .bad,
 s46.2.2.2.2.2.2.2.2.1.getD 10 .bad,
 s46.2.2.2.2.2.2.2.2.1.getD 11 .bad,
 s46.2.2.2.2.2.2.2.2.1.getD 12 .bad,
 s46.2.2.2.2.2.2.2.2.1.getD 13 .bad],
 [s46.2.2.2.2.2.2.2.2.2.1.getD 0 .bad,
 s46.2.2.2.2.2.2.2.2.2.1.getD 1 .bad,
 s46.2.2.2.2.2.2.2.2.2.1.getD 2 .bad],
 [s46.2.2.2.2.2.2.2.2.2.2.1.getD 0 .bad,
 s46.2.2.2.2.2.2.2.2.2.2.1.getD 1 .bad,
 s46.2.2.2.2.2.2.2.2.2.2.1.getD 2 .bad],
 s46.2.2.2.2.2.2.2.2.2.2.2.1, ()))
 fun ks51 vs52 =>
 (Ab.asBool (mlook (PV.int .i64 s46.2.2.2.1) (PV.bool false) (ks51.zip vs52))).bind fun b53 =>
 bif sameB true !b53 then
 (Ab.asInt .i64 (cell s46.2.1 0)).bind fun n54 =>
 (bif (↑s46.2.2.2.2.2.2.2.2.2.2.2.1.length : Int) == 0 then some true
 else
 if
 inRange (IntKind.i64.wrap ((↑s46.2.2.2.2.2.2.2.2.2.2.2.1.length : Int) - 1))
 s46.2.2.2.2.2.2.2.2.2.2.2.1.length then
 s46.2.2.2.2.2.2.2.2.2.2.2.1[(IntKind.i64.wrap
 ((↑s46.2.2.2.2.2.2.2.2.2.2.2.1.length : Int) - 1)).toNat]?.bind
 fun e55 =>
 if
 chk
 (Kd.int IntKind.i64 ::
 [].append (Kd.int IntKind.i64 :: [].append (Kd.int IntKind.i64 :: [].append [])))
 [cell e55 0, cell e55 1, cell e55 2] =
 true ∧
 chk
 (Kd.int IntKind.i64 ::
 [].append (Kd.int IntKind.i64 :: [].append (Kd.int IntKind.i64 :: [].append [])))
 [PV.int .i64 n54, PV.int .i64 s46.2.2.2.1, PV.int .i64 0] =
 true then
 some
 !peqL [cell e55 0, cell e55 1, cell e55 2]
 [PV.int .i64 n54, PV.int .i64 s46.2.2.2.1, PV.int .i64 0]
 else none
 else none).bind
 fun r56 =>
 if r56 = true then
 if
 (s46.2.2.2.2.2.2.2.2.2.2.2.1 ++
 [PV.agg
 [PV.int .i64 n54, PV.int .i64 s46.2.2.2.1,
 PV.int .i64 0]]).length *
 24 ≤
 roomBound ∧
 0 < 24 then
 rec47
 (PV.agg [cell s46.1 0], PV.agg [cell s46.2.1 0], s46.2.2.1,
 IntKind.i64.wrap (s46.2.2.2.1 + 1),
 [s46.2.2.2.2.1.getD 0 .bad, s46.2.2.2.2.1.getD 1 .bad,
 s46.2.2.2.2.1.getD 2 .bad],
 [s46.2.2.2.2.2.1.getD 0 .bad, s46.2.2.2.2.2.1.getD 1 .bad,
 s46.2.2.2.2.2.1.getD 2 .bad],
 [s46.2.2.2.2.2.2.1.getD 0 .bad, s46.2.2.2.2.2.2.1.getD 1 .bad,
 s46.2.2.2.2.2.2.1.getD 2 .bad],
 [s46.2.2.2.2.2.2.2.1.getD 0 .bad,
 s46.2.2.2.2.2.2.2.1.getD 1 .bad,
 s46.2.2.2.2.2.2.2.1.getD 2 .bad],
 [s46.2.2.2.2.2.2.2.2.1.getD 0 .bad,
 s46.2.2.2.2.2.2.2.2.1.getD 1 .bad,
 s46.2.2.2.2.2.2.2.2.1.getD 2 .bad,
 s46.2.2.2.2.2.2.2.2.1.getD 3 .bad,
 s46.2.2.2.2.2.2.2.2.1.getD 4 .bad,
 s46.2.2.2.2.2.2.2.2.1.getD 5 .bad,
 s46.2.2.2.2.2.2.2.2.1.getD 6 .bad,
 s46.2.2.2.2.2.2.2.2.1.getD 7 .bad,
 s46.2.2.2.2.2.2.2.2.1.getD 8 .bad,
 s46.2.2.2.2.2.2.2.2.1.getD 9 .bad,
 s46.2.2.2.2.2.2.2.2.1.getD 10 .bad,
 s46.2.2.2.2.2.2.2.2.1.getD 11 .bad,
 s46.2.2.2.2.2.2.2.2.1.getD 12 .bad,
 s46.2.2.2.2.2.2.2.2.1.getD 13 .bad],
 [s46.2.2.2.2.2.2.2.2.2.1.getD 0 .bad,
 s46.2.2.2.2.2.2.2.2.2.1.getD 1 .bad,
 s46.2.2.2.2.2.2.2.2.2.1.getD 2 .bad],
 [s46.2.2.2.2.2.2.2.2.2.2.1.getD 0 .bad,
 s46.2.2.2.2.2.2.2.2.2.2.1.getD 1 .bad,
 s46.2.2.2.2.2.2.2.2.2.2.1.getD 2 .bad],
 s46.2.2.2.2.2.2.2.2.2.2.2.1 ++
 [PV.agg [PV.int .i64 n54, PV.int .i64 s46.2.2.2.1, PV.int .i64 0]],
 ())
 else none
 else
 rec47
 (PV.agg [cell s46.1 0], PV.agg [cell s46.2.1 0], s46.2.2.1,
 IntKind.i64.wrap (s46.2.2.2.1 + 1),
 [s46.2.2.2.2.1.getD 0 .bad, s46.2.2.2.2.1.getD 1 .bad,
 s46.2.2.2.2.1.getD 2 .bad],
 [s46.2.2.2.2.2.1.getD 0 .bad, s46.2.2.2.2.2.1.getD 1 .bad,
 s46.2.2.2.2.2.1.getD 2 .bad],
 [s46.2.2.2.2.2.2.1.getD 0 .bad, s46.2.2.2.2.2.2.1.getD 1 .bad,
 s46.2.2.2.2.2.2.1.getD 2 .bad],
 [s46.2.2.2.2.2.2.2.1.getD 0 .bad, s46.2.2.2.2.2.2.2.1.getD 1 .bad,
 s46.2.2.2.2.2.2.2.1.getD 2 .bad],
 [s46.2.2.2.2.2.2.2.2.1.getD 0 .bad,
 s46.2.2.2.2.2.2.2.2.1.getD 1 .bad,
 s46.2.2.2.2.2.2.2.2.1.getD 2 .bad,
 s46.2.2.2.2.2.2.2.2.1.getD 3 .bad,
 s46.2.2.2.2.2.2.2.2.1.getD 4 .bad,
 s46.2.2.2.2.2.2.2.2.1.getD 5 .bad,
 s46.2.2.2.2.2.2.2.2.1.getD 6 .bad,
 s46.2.2.2.2.2.2.2.2.1.getD 7 .bad,
 s46.2.2.2.2.2.2.2.2.1.getD 8 .bad,
 s46.2.2.2.2.2.2.2.2.1.getD 9 .bad,
 s46.2.2.2.2.2.2.2.2.1.getD 10 .bad,
 s46.2.2.2.2.2.2.2.2.1.getD 11 .bad,
 s46.2.2.2.2.2.2.2.2.1.getD 12 .bad,
 s46.2.2.2.2.2.2.2.2.1.getD 13 .bad],
 [s46.2.2.2.2.2.2.2.2.2.1.getD 0 .bad,
 s46.2.2.2.2.2.2.2.2.2.1.getD 1 .bad,
 s46.2.2.2.2.2.2.2.2.2.1.getD 2 .bad],
 [s46.2.2.2.2.2.2.2.2.2.2.1.getD 0 .bad,
 s46.2.2.2.2.2.2.2.2.2.2.1.getD 1 .bad,
 s46.2.2.2.2.2.2.2.2.2.2.1.getD 2 .bad],
 s46.2.2.2.2.2.2.2.2.2.2.2.1, ())
 else
 rec47
 (PV.agg [cell s46.1 0], PV.agg [cell s46.2.1 0], s46.2.2.1,
 IntKind.i64.wrap (s46.2.2.2.1 + 1),
 [s46.2.2.2.2.1.getD 0 .bad, s46.2.2.2.2.1.getD 1 .bad,
 s46.2.2.2.2.1.getD 2 .bad],
 [s46.2.2.2.2.2.1.getD 0 .bad, s46.2.2.2.2.2.1.getD 1 .bad,
 s46.2.2.2.2.2.1.getD 2 .bad],
 [s46.2.2.2.2.2.2.1.getD 0 .bad, s46.2.2.2.2.2.2.1.getD 1 .bad,
 s46.2.2.2.2.2.2.1.getD 2 .bad],
 [s46.2.2.2.2.2.2.2.1.getD 0 .bad, s46.2.2.2.2.2.2.2.1.getD 1 .bad,
 s46.2.2.2.2.2.2.2.1.getD 2 .bad],
 [s46.2.2.2.2.2.2.2.2.1.getD 0 .bad,
 s46.2.2.2.2.2.2.2.2.1.getD 1 .bad,
 s46.2.2.2.2.2.2.2.2.1.getD 2 .bad,
 s46.2.2.2.2.2.2.2.2.1.getD 3 .bad,
 s46.2.2.2.2.2.2.2.2.1.getD 4 .bad,
 s46.2.2.2.2.2.2.2.2.1.getD 5 .bad,
 s46.2.2.2.2.2.2.2.2.1.getD 6 .bad,
 s46.2.2.2.2.2.2.2.2.1.getD 7 .bad,
 s46.2.2.2.2.2.2.2.2.1.getD 8 .bad,
 s46.2.2.2.2.2.2.2.2.1.getD 9 .bad,
 s46.2.2.2.2.2.2.2.2.1.getD 10 .bad,
 s46.2.2.2.2.2.2.2.2.1.getD 11 .bad,
 s46.2.2.2.2.2.2.2.2.1.getD 12 .bad,
 s46.2.2.2.2.2.2.2.2.1.getD 13 .bad],
 [s46.2.2.2.2.2.2.2.2.2.1.getD 0 .bad,
 s46.2.2.2.2.2.2.2.2.2.1.getD 1 .bad,
 s46.2.2.2.2.2.2.2.2.2.1.getD 2 .bad],
 [s46.2.2.2.2.2.2.2.2.2.2.1.getD 0 .bad,
 s46.2.2.2.2.2.2.2.2.2.2.1.getD 1 .bad,
 s46.2.2.2.2.2.2.2.2.2.2.1.getD 2 .bad],
 s46.2.2.2.2.2.2.2.2.2.2.2.1, ())
else
 (Ab.asInt .i64 (s46.2.2.2.2.2.2.1.getD 0 .bad)).bind fun n57 =>
 L.run (lint_Warnings_L6 L)
 (PV.agg [s46.2.2.2.2.2.2.1.getD 1 .bad], PV.agg [s46.2.2.2.2.2.2.1.getD 2 .bad],
 n57, 0,
 [s46.2.2.2.2.1.getD 0 .bad, s46.2.2.2.2.1.getD 1 .bad,
 s46.2.2.2.2.1.getD 2 .bad],
 [s46.2.2.2.2.2.1.getD 0 .bad, s46.2.2.2.2.2.1.getD 1 .bad,
 s46.2.2.2.2.2.1.getD 2 .bad],
 [s46.2.2.2.2.2.2.1.getD 0 .bad, s46.2.2.2.2.2.2.1.getD 1 .bad,
 s46.2.2.2.2.2.2.1.getD 2 .bad],
 [s46.2.2.2.2.2.2.2.1.getD 0 .bad, s46.2.2.2.2.2.2.2.1.getD 1 .bad,
 s46.2.2.2.2.2.2.2.1.getD 2 .bad],
 [s46.2.2.2.2.2.2.2.2.1.getD 0 .bad, s46.2.2.2.2.2.2.2.2.1.getD 1 .bad,
 s46.2.2.2.2.2.2.2.2.1.getD 2 .bad, s46.2.2.2.2.2.2.2.2.1.getD 3 .bad,
 s46.2.2.2.2.2.2.2.2.1.getD 4 .bad, s46.2.2.2.2.2.2.2.2.1.getD 5 .bad,
 s46.2.2.2.2.2.2.2.2.1.getD 6 .bad, s46.2.2.2.2.2.2.2.2.1.getD 7 .bad,
 s46.2.2.2.2.2.2.2.2.1.getD 8 .bad, s46.2.2.2.2.2.2.2.2.1.getD 9 .bad,
 s46.2.2.2.2.2.2.2.2.1.getD 10 .bad,
 s46.2.2.2.2.2.2.2.2.1.getD 11 .bad,
 s46.2.2.2.2.2.2.2.2.1.getD 12 .bad,
 s46.2.2.2.2.2.2.2.2.1.getD 13 .bad],
 [s46.2.2.2.2.2.2.2.2.2.1.getD 0 .bad,
 s46.2.2.2.2.2.2.2.2.2.1.getD 1 .bad,
 s46.2.2.2.2.2.2.2.2.2.1.getD 2 .bad],
 [s46.2.2.2.2.2.2.2.2.2.2.1.getD 0 .bad,
 s46.2.2.2.2.2.2.2.2.2.2.1.getD 1 .bad,
 s46.2.2.2.2.2.2.2.2.2.2.1.getD 2 .bad],
 s46.2.2.2.2.2.2.2.2.2.2.2.1, ())
def lint_Warnings_L8 (L : Lps) : (PV × PV × Int × Int × List PV × List PV × List PV × List PV × List PV × List PV × List PV × List PV × Unit) → (PV × PV × Int × Int × List PV × List PV × List PV × List PV × List PV × List PV × List PV × List PV × Unit → Option PV) → Option PV := fun s34 rec35 =>
 if decide (s34.2.2.2.1 < s34.2.2.1) = true then
 mapCase 3 (cell s34.1 0)
 ((Ab.asInt .i64 (cell s34.2.1 0)).bind fun n36 =>
 (bif (↑s34.2.2.2.2.2.2.2.2.2.2.2.1.length : Int) == 0 then some true
 else
 if
 inRange (IntKind.i64.wrap ((↑s34.2.2.2.2.2.2.2.2.2.2.2.1.length : Int) - 1))
 s34.2.2.2.2.2.2.2.2.2.2.2.1.length then
 s34.2.2.2.2.2.2.2.2.2.2.2.1[(IntKind.i64.wrap
 ((↑s34.2.2.2.2.2.2.2.2.2.2.2.1.length : Int) - 1)).toNat]?.bind
 fun e37 =>
 if
 chk
 (Kd.int IntKind.i64 ::
 [].append (Kd.int IntKind.i64 :: [].append (Kd.int IntKind.i64 :: [].append [])))
 [cell e37 0, cell e37 1, cell e37 2] =
 true ∧
 chk
 (Kd.int IntKind.i64 ::
 [].append (Kd.int IntKind.i64 :: [].append (Kd.int IntKind.i64 :: [].append [])))
 [PV.int .i64 n36, PV.int .i64 s34.2.2.2.1, PV.int .i64 0] =
 true then
 some
 !peqL [cell e37 0, cell e37 1, cell e37 2]
 [PV.int .i64 n36, PV.int .i64 s34.2.2.2.1, PV.int .i64 0]
 else none
 else none).bind
 fun r38 =>
 if r38 = true then
 if
 (s34.2.2.2.2.2.2.2.2.2.2.2.1 ++
 [PV.agg
 [PV.int .i64 n36, PV.int .i64 s34.2.2.2.1,
 PV.int .i64 0]]).length *
 24 ≤
 roomBound ∧
 0 < 24 then
 rec35
 (PV.agg [cell s34.1 0], PV.agg [cell s34.2.1 0], s34.2.2.1,
 IntKind.i64.wrap (s34.2.2.2.1 + 1),
 [s34.2.2.2.2.1.getD 0 .bad, s34.2.2.2.2.1.getD 1 .bad,
 s34.2.2.2.2.1.getD 2 .bad],
 [s34.2.2.2.2.2.1.getD 0 .bad, s34.2.2.2.2.2.1.getD 1 .bad,
 s34.2.2.2.2.2.1.getD 2 .bad],
 [s34.2.2.2.2.2.2.1.getD 0 .bad, s34.2.2.2.2.2.2.1.getD 1 .bad,
 s34.2.2.2.2.2.2.1.getD 2 .bad],
 [s34.2.2.2.2.2.2.2.1.getD 0 .bad, s34.2.2.2.2.2.2.2.1.getD 1 .bad,
 s34.2.2.2.2.2.2.2.1.getD 2 .bad],
 [s34.2.2.2.2.2.2.2.2.1.getD 0 .bad,
 s34.2.2.2.2.2.2.2.2.1.getD 1 .bad,
 s34.2.2.2.2.2.2.2.2.1.getD 2 .bad,
 s34.2.2.2.2.2.2.2.2.1.getD 3 .bad,
 s34.2.2.2.2.2.2.2.2.1.getD 4 .bad,
 s34.2.2.2.2.2.2.2.2.1.getD 5 .bad,
 s34.2.2.2.2.2.2.2.2.1.getD 6 .bad,
 s34.2.2.2.2.2.2.2.2.1.getD 7 .bad,
 s34.2.2.2.2.2.2.2.2.1.getD 8 .bad,
 s34.2.2.2.2.2.2.2.2.1.getD 9 .bad,
 s34.2.2.2.2.2.2.2.2.1.getD 10 .bad,
 s34.2.2.2.2.2.2.2.2.1.getD 11 .bad,
 s34.2.2.2.2.2.2.2.2.1.getD 12 .bad,
 s34.2.2.2.2.2.2.2.2.1.getD 13 .bad],
 [s34.2.2.2.2.2.2.2.2.2.1.getD 0 .bad,
 s34.2.2.2.2.2.2.2.2.2.1.getD 1 .bad,
 s34.2.2.2.2.2.2.2.2.2.1.getD 2 .bad],
 [s34.2.2.2.2.2.2.2.2.2.2.1.getD 0 .bad,
 s34.2.2.2.2.2.2.2.2.2.2.1.getD 1 .bad,
 s34.2.2.2.2.2.2.2.2.2.2.1.getD 2 .bad],
 s34.2.2.2.2.2.2.2.2.2.2.2.1 ++
 [PV.agg [PV.int .i64 n36, PV.int .i64 s34.2.2.2.1, PV.int .i64 0]],
 ())
 else none
 else
 rec35
 (PV.agg [cell s34.1 0], PV.agg [cell s34.2.1 0], s34.2.2.1,
 IntKind.i64.wrap (s34.2.2.2.1 + 1),
 [s34.2.2.2.2.1.getD 0 .bad, s34.2.2.2.2.1.getD 1 .bad,
 s34.2.2.2.2.1.getD 2 .bad],
 [s34.2.2.2.2.2.1.getD 0 .bad, s34.2.2.2.2.2.1.getD 1 .bad,
 s34.2.2.2.2.2.1.getD 2 .bad],
 [s34.2.2.2.2.2.2.1.getD 0 .bad, s34.2.2.2.2.2.2.1.getD 1 .bad,
 s34.2.2.2.2.2.2.1.getD 2 .bad],
 [s34.2.2.2.2.2.2.2.1.getD 0 .bad, s34.2.2.2.2.2.2.2.1.getD 1 .bad,
 s34.2.2.2.2.2.2.2.1.getD 2 .bad],
 [s34.2.2.2.2.2.2.2.2.1.getD 0 .bad,
 s34.2.2.2.2.2.2.2.2.1.getD 1 .bad,
 s34.2.2.2.2.2.2.2.2.1.getD 2 .bad,
 s34.2.2.2.2.2.2.2.2.1.getD 3 .bad,
 s34.2.2.2.2.2.2.2.2.1.getD 4 .bad,
 s34.2.2.2.2.2.2.2.2.1.getD 5 .bad,
 s34.2.2.2.2.2.2.2.2.1.getD 6 .bad,
 s34.2.2.2.2.2.2.2.2.1.getD 7 .bad,
 s34.2.2.2.2.2.2.2.2.1.getD 8 .bad,
 s34.2.2.2.2.2.2.2.2.1.getD 9 .bad,
 s34.2.2.2.2.2.2.2.2.1.getD 10 .bad,
 s34.2.2.2.2.2.2.2.2.1.getD 11 .bad,
 s34.2.2.2.2.2.2.2.2.1.getD 12 .bad,
 s34.2.2.2.2.2.2.2.2.1.getD 13 .bad],
 [s34.2.2.2.2.2.2.2.2.2.1.getD 0 .bad,
 s34.2.2.2.2.2.2.2.2.2.1.getD 1 .bad,
 s34.2.2.2.2.2.2.2.2.2.1.getD 2 .bad],
 [s34.2.2.2.2.2.2.2.2.2.2.1.getD 0 .bad,
 s34.2.2.2.2.2.2.2.2.2.2.1.getD 1 .bad,
 s34.2.2.2.2.2.2.2.2.2.2.1.getD 2 .bad],
 s34.2.2.2.2.2.2.2.2.2.2.2.1, ()))
 fun ks39 vs40 =>
 (Ab.asBool (mlook (PV.int .i64 s34.2.2.2.1) (PV.bool false) (ks39.zip vs40))).bind fun b41 =>
 bif sameB true !b41 then
 (Ab.asInt .i64 (cell s34.2.1 0)).bind fun n42 =>
 (bif (↑s34.2.2.2.2.2.2.2.2.2.2.2.1.length : Int) == 0 then some true
 else
 if
 inRange (IntKind.i64.wrap ((↑s34.2.2.2.2.2.2.2.2.2.2.2.1.length : Int) - 1))
 s34.2.2.2.2.2.2.2.2.2.2.2.1.length then
 s34.2.2.2.2.2.2.2.2.2.2.2.1[(IntKind.i64.wrap
 ((↑s34.2.2.2.2.2.2.2.2.2.2.2.1.length : Int) - 1)).toNat]?.bind
 fun e43 =>
 if
 chk
 (Kd.int IntKind.i64 ::
 [].append (Kd.int IntKind.i64 :: [].append (Kd.int IntKind.i64 :: [].append [])))
 [cell e43 0, cell e43 1, cell e43 2] =
 true ∧
 chk
 (Kd.int IntKind.i64 ::
 [].append (Kd.int IntKind.i64 :: [].append (Kd.int IntKind.i64 :: [].append [])))
 [PV.int .i64 n42, PV.int .i64 s34.2.2.2.1, PV.int .i64 0] =
 true then
 some
 !peqL [cell e43 0, cell e43 1, cell e43 2]
 [PV.int .i64 n42, PV.int .i64 s34.2.2.2.1, PV.int .i64 0]
 else none
 else none).bind
 fun r44 =>
 if r44 = true then
 if
 (s34.2.2.2.2.2.2.2.2.2.2.2.1 ++
 [PV.agg
 [PV.int .i64 n42, PV.int .i64 s34.2.2.2.1,
 PV.int .i64 0]]).length *
 24 ≤
 roomBound ∧
 0 < 24 then
 rec35
 (PV.agg [cell s34.1 0], PV.agg [cell s34.2.1 0], s34.2.2.1,
 IntKind.i64.wrap (s34.2.2.2.1 + 1),
 [s34.2.2.2.2.1.getD 0 .bad, s34.2.2.2.2.1.getD 1 .bad,
 s34.2.2.2.2.1.getD 2 .bad],
 [s34.2.2.2.2.2.1.getD 0 .bad, s34.2.2.2.2.2.1.getD 1 .bad,
 s34.2.2.2.2.2.1.getD 2 .bad],
 [s34.2.2.2.2.2.2.1.getD 0 .bad, s34.2.2.2.2.2.2.1.getD 1 .bad,
 s34.2.2.2.2.2.2.1.getD 2 .bad],
 [s34.2.2.2.2.2.2.2.1.getD 0 .bad,
 s34.2.2.2.2.2.2.2.1.getD 1 .bad,
 s34.2.2.2.2.2.2.2.1.getD 2 .bad],
 [s34.2.2.2.2.2.2.2.2.1.getD 0 .bad,
 s34.2.2.2.2.2.2.2.2.1.getD 1 .bad,
 s34.2.2.2.2.2.2.2.2.1.getD 2 .bad,
 s34.2.2.2.2.2.2.2.2.1.getD 3 .bad,
 s34.2.2.2.2.2.2.2.2.1.getD 4 .bad,
 s34.2.2.2.2.2.2.2.2.1.getD 5 .bad,
 s34.2.2.2.2.2.2.2.2.1.getD 6 .bad,
 s34.2.2.2.2.2.2.2.2.1.getD 7 .bad,
 s34.2.2.2.2.2.2.2.2.1.getD 8 .bad,
 s34.2.2.2.2.2.2.2.2.1.getD 9 .bad,
 s34.2.2.2.2.2.2.2.2.1.getD 10 .bad,
 s34.2.2.2.2.2.2.2.2.1.getD 11 .bad,
 s34.2.2.2.2.2.2.2.2.1.getD 12 .bad,
 s34.2.2.2.2.2.2.2.2.1.getD 13 .bad],
 [s34.2.2.2.2.2.2.2.2.2.1.getD 0 .bad,
 s34.2.2.2.2.2.2.2.2.2.1.getD 1 .bad,
 s34.2.2.2.2.2.2.2.2.2.1.getD 2 .bad],
 [s34.2.2.2.2.2.2.2.2.2.2.1.getD 0 .bad,
 s34.2.2.2.2.2.2.2.2.2.2.1.getD 1 .bad,
 s34.2.2.2.2.2.2.2.2.2.2.1.getD 2 .bad],
 s34.2.2.2.2.2.2.2.2.2.2.2.1 ++
 [PV.agg [PV.int .i64 n42, PV.int .i64 s34.2.2.2.1, PV.int .i64 0]],
 ())
 else none
 else
 rec35
 (PV.agg [cell s34.1 0], PV.agg [cell s34.2.1 0], s34.2.2.1,
 IntKind.i64.wrap (s34.2.2.2.1 + 1),
 [s34.2.2.2.2.1.getD 0 .bad, s34.2.2.2.2.1.getD 1 .bad,
 s34.2.2.2.2.1.getD 2 .bad],
 [s34.2.2.2.2.2.1.getD 0 .bad, s34.2.2.2.2.2.1.getD 1 .bad,
 s34.2.2.2.2.2.1.getD 2 .bad],
 [s34.2.2.2.2.2.2.1.getD 0 .bad, s34.2.2.2.2.2.2.1.getD 1 .bad,
 s34.2.2.2.2.2.2.1.getD 2 .bad],
 [s34.2.2.2.2.2.2.2.1.getD 0 .bad, s34.2.2.2.2.2.2.2.1.getD 1 .bad,
 s34.2.2.2.2.2.2.2.1.getD 2 .bad],
 [s34.2.2.2.2.2.2.2.2.1.getD 0 .bad,
 s34.2.2.2.2.2.2.2.2.1.getD 1 .bad,
 s34.2.2.2.2.2.2.2.2.1.getD 2 .bad,
 s34.2.2.2.2.2.2.2.2.1.getD 3 .bad,
 s34.2.2.2.2.2.2.2.2.1.getD 4 .bad,
 s34.2.2.2.2.2.2.2.2.1.getD 5 .bad,
 s34.2.2.2.2.2.2.2.2.1.getD 6 .bad,
 s34.2.2.2.2.2.2.2.2.1.getD 7 .bad,
 s34.2.2.2.2.2.2.2.2.1.getD 8 .bad,
 s34.2.2.2.2.2.2.2.2.1.getD 9 .bad,
 s34.2.2.2.2.2.2.2.2.1.getD 10 .bad,
 s34.2.2.2.2.2.2.2.2.1.getD 11 .bad,
 s34.2.2.2.2.2.2.2.2.1.getD 12 .bad,
 s34.2.2.2.2.2.2.2.2.1.getD 13 .bad],
 [s34.2.2.2.2.2.2.2.2.2.1.getD 0 .bad,
 s34.2.2.2.2.2.2.2.2.2.1.getD 1 .bad,
 s34.2.2.2.2.2.2.2.2.2.1.getD 2 .bad],
 [s34.2.2.2.2.2.2.2.2.2.2.1.getD 0 .bad,
 s34.2.2.2.2.2.2.2.2.2.2.1.getD 1 .bad,
 s34.2.2.2.2.2.2.2.2.2.2.1.getD 2 .bad],
 s34.2.2.2.2.2.2.2.2.2.2.2.1, ())
 else
 rec35
 (PV.agg [cell s34.1 0], PV.agg [cell s34.2.1 0], s34.2.2.1,
 IntKind.i64.wrap (s34.2.2.2.1 + 1),
 [s34.2.2.2.2.1.getD 0 .bad, s34.2.2.2.2.1.getD 1 .bad,
 s34.2.2.2.2.1.getD 2 .bad],
 [s34.2.2.2.2.2.1.getD 0 .bad, s34.2.2.2.2.2.1.getD 1 .bad,
 s34.2.2.2.2.2.1.getD 2 .bad],
 [s34.2.2.2.2.2.2.1.getD 0 .bad, s34.2.2.2.2.2.2.1.getD 1 .bad,
 s34.2.2.2.2.2.2.1.getD 2 .bad],
 [s34.2.2.2.2.2.2.2.1.getD 0 .bad, s34.2.2.2.2.2.2.2.1.getD 1 .bad,
 s34.2.2.2.2.2.2.2.1.getD 2 .bad],
 [s34.2.2.2.2.2.2.2.2.1.getD 0 .bad,
 s34.2.2.2.2.2.2.2.2.1.getD 1 .bad,
 s34.2.2.2.2.2.2.2.2.1.getD 2 .bad,
 s34.2.2.2.2.2.2.2.2.1.getD 3 .bad,
 s34.2.2.2.2.2.2.2.2.1.getD 4 .bad,
 s34.2.2.2.2.2.2.2.2.1.getD 5 .bad,
 s34.2.2.2.2.2.2.2.2.1.getD 6 .bad,
 s34.2.2.2.2.2.2.2.2.1.getD 7 .bad,
 s34.2.2.2.2.2.2.2.2.1.getD 8 .bad,
 s34.2.2.2.2.2.2.2.2.1.getD 9 .bad,
 s34.2.2.2.2.2.2.2.2.1.getD 10 .bad,
 s34.2.2.2.2.2.2.2.2.1.getD 11 .bad,
 s34.2.2.2.2.2.2.2.2.1.getD 12 .bad,
 s34.2.2.2.2.2.2.2.2.1.getD 13 .bad],
 [s34.2.2.2.2.2.2.2.2.2.1.getD 0 .bad,
 s34.2.2.2.2.2.2.2.2.2.1.getD 1 .bad,
 s34.2.2.2.2.2.2.2.2.2.1.getD 2 .bad],
 [s34.2.2.2.2.2.2.2.2.2.2.1.getD 0 .bad,
 s34.2.2.2.2.2.2.2.2.2.2.1.getD 1 .bad,
 s34.2.2.2.2.2.2.2.2.2.2.1.getD 2 .bad],
 s34.2.2.2.2.2.2.2.2.2.2.2.1, ())
else
 (Ab.asInt .i64 (s34.2.2.2.2.2.1.getD 0 .bad)).bind fun n45 =>
 L.run (lint_Warnings_L7 L)
 (PV.agg [s34.2.2.2.2.2.1.getD 1 .bad], PV.agg [s34.2.2.2.2.2.1.getD 2 .bad], n45, 0,
 [s34.2.2.2.2.1.getD 0 .bad, s34.2.2.2.2.1.getD 1 .bad,
 s34.2.2.2.2.1.getD 2 .bad],
 [s34.2.2.2.2.2.1.getD 0 .bad, s34.2.2.2.2.2.1.getD 1 .bad,
 s34.2.2.2.2.2.1.getD 2 .bad],
 [s34.2.2.2.2.2.2.1.getD 0 .bad, s34.2.2.2.2.2.2.1.getD 1 .bad,
 s34.2.2.2.2.2.2.1.getD 2 .bad],
 [s34.2.2.2.2.2.2.2.1.getD 0 .bad, s34.2.2.2.2.2.2.2.1.getD 1 .bad,
 s34.2.2.2.2.2.2.2.1.getD 2 .bad],
 [s34.2.2.2.2.2.2.2.2.1.getD 0 .bad, s34.2.2.2.2.2.2.2.2.1.getD 1 .bad,
 s34.2.2.2.2.2.2.2.2.1.getD 2 .bad, s34.2.2.2.2.2.2.2.2.1.getD 3 .bad,
 s34.2.2.2.2.2.2.2.2.1.getD 4 .bad, s34.2.2.2.2.2.2.2.2.1.getD 5 .bad,
 s34.2.2.2.2.2.2.2.2.1.getD 6 .bad, s34.2.2.2.2.2.2.2.2.1.getD 7 .bad,
 s34.2.2.2.2.2.2.2.2.1.getD 8 .bad, s34.2.2.2.2.2.2.2.2.1.getD 9 .bad,
 s34.2.2.2.2.2.2.2.2.1.getD 10 .bad,
 s34.2.2.2.2.2.2.2.2.1.getD 11 .bad,
 s34.2.2.2.2.2.2.2.2.1.getD 12 .bad,
 s34.2.2.2.2.2.2.2.2.1.getD 13 .bad],
 [s34.2.2.2.2.2.2.2.2.2.1.getD 0 .bad,
 s34.2.2.2.2.2.2.2.2.2.1.getD 1 .bad,
 s34.2.2.2.2.2.2.2.2.2.1.getD 2 .bad],
 [s34.2.2.2.2.2.2.2.2.2.2.1.getD 0 .bad,
 s34.2.2.2.2.2.2.2.2.2.2.1.getD 1 .bad,
 s34.2.2.2.2.2.2.2.2.2.2.1.getD 2 .bad],
 s34.2.2.2.2.2.2.2.2.2.2.2.1, ())
def lint_Warnings (L : Lps) (p0 : PV) : Option PV :=
 (Ab.asAgg 13 p0).bind fun x0 =>
 (asSl 4 (cell p0 0)).bind fun es1 =>
 (asSl 3 (cell p0 1)).bind fun es2 =>
 (asSl 10 (cell p0 2)).bind fun es3 =>
 (asSl 3 (cell p0 3)).bind fun es4 =>
 (asSl 5 (cell p0 4)).bind fun es5 =>
 (asSl 4 (cell p0 5)).bind fun es6 =>
 (asSl 2 (cell p0 6)).bind fun es7 =>
 (asSl 3 (cell p0 7)).bind fun es8 =>
 (asSl 4 (cell p0 8)).bind fun es9 =>
 (asSl 6 (cell p0 9)).bind fun es10 =>
 (Ab.asInt .i64 (cell p0 10)).bind fun n11 =>
 (Ab.asInt .i64 (cell p0 11)).bind fun n12 =>
 (Ab.asInt .i64 (cell p0 12)).bind fun n13 =>
 (timetable_Check_M
 [PV.agg
 [PV.rs 4 es1, PV.rs 3 es2, PV.rs 10 es3, PV.rs 3 es4, PV.rs 5 es5, PV.rs 4 es6,
 PV.rs 2 es7, PV.rs 3 es8, PV.rs 4 es9, PV.rs 6 es10, PV.int .i64 n11,
 PV.int .i64 n12, PV.int .i64 n13]]).bind
 fun r14 =>
 (asTup 3 r14).bind fun vs15 =>
 (Ab.asInt .i64 (vs15.getD 0 .bad)).bind fun n16 =>
 (Ab.asInt .i64 (vs15.getD 1 .bad)).bind fun n17 =>
 (Ab.asInt .i64 (vs15.getD 2 .bad)).bind fun n18 =>
 if (n18 != 0) = true then some (PV.rs 3 [])
 else
 (lint_stops_M
 [PV.agg
 [PV.rs 4 es1, PV.rs 3 es2, PV.rs 10 es3, PV.rs 3 es4, PV.rs 5 es5,
 PV.rs 4 es6, PV.rs 2 es7, PV.rs 3 es8, PV.rs 4 es9, PV.rs 6 es10,
 PV.int .i64 n11, PV.int .i64 n12,
 PV.int .i64 n13]]).bind
 fun r19 =>
 (rdL (FS.fn 104 [FS.ptr [FS.raw], FS.ptr [FS.raw], FS.ptr [FS.raw]]) r19).bind
 fun ls20 =>
 (lint_routes_M
 [PV.agg
 [PV.rs 4 es1, PV.rs 3 es2, PV.rs 10 es3, PV.rs 3 es4, PV.rs 5 es5,
 PV.rs 4 es6, PV.rs 2 es7, PV.rs 3 es8, PV.rs 4 es9,
 PV.rs 6 es10, PV.int .i64 n11, PV.int .i64 n12,
 PV.int .i64 n13]]).bind
 fun r21 =>
 (rdL (FS.fn 104 [FS.ptr [FS.raw], FS.ptr [FS.raw], FS.ptr [FS.raw]])
 r21).bind
 fun ls22 =>
 (lint_calendars_M
 [PV.agg
 [PV.rs 4 es1, PV.rs 3 es2, PV.rs 10 es3, PV.rs 3 es4,
 PV.rs 5 es5, PV.rs 4 es6, PV.rs 2 es7, PV.rs 3 es8,
 PV.rs 4 es9, PV.rs 6 es10, PV.int .i64 n11,
 PV.int .i64 n12, PV.int .i64 n13]]).bind
 fun r23 =>
 (rdL (FS.fn 104 [FS.ptr [FS.raw], FS.ptr [FS.raw], FS.ptr [FS.raw]])
 r23).bind
 fun ls24 =>
 (lint_idle_M
 [PV.agg
 [PV.rs 4 es1, PV.rs 3 es2, PV.rs 10 es3, PV.rs 3 es4,
 PV.rs 5 es5, PV.rs 4 es6, PV.rs 2 es7, PV.rs 3 es8,
 PV.rs 4 es9, PV.rs 6 es10, PV.int .i64 n11,
 PV.int .i64 n12, PV.int .i64 n13]]).bind
 fun r25 =>
 (rdL
 (FS.fn 104
 [FS.ptr [FS.raw], FS.ptr [FS.raw], FS.ptr [FS.raw]])
 r25).bind
 fun ls26 =>
 (lint_overtaking_M
 [PV.agg
 [PV.rs 4 es1, PV.rs 3 es2, PV.rs 10 es3, PV.rs 3 es4,
 PV.rs 5 es5, PV.rs 4 es6, PV.rs 2 es7, PV.rs 3 es8,
 PV.rs 4 es9, PV.rs 6 es10, PV.int .i64 n11,
 PV.int .i64 n12,
 PV.int .i64 n13]]).bind
 fun r27 =>
 (rdL
 (FS.fn 73
 [FS.ptr
 [FS.raw, FS.raw, FS.raw, FS.raw, FS.raw, FS.raw,
 FS.raw, FS.raw, FS.raw, FS.raw, FS.raw, FS.raw,
 FS.raw],
 FS.ptr [FS.fn 72 [FS.ptr [FS.raw]]]])
 r27).bind
 fun ls28 =>
 (lint_unreachable_M
 [PV.agg
 [PV.rs 4 es1, PV.rs 3 es2, PV.rs 10 es3,
 PV.rs 3 es4, PV.rs 5 es5, PV.rs 4 es6,
 PV.rs 2 es7, PV.rs 3 es8, PV.rs 4 es9,
 PV.rs 6 es10, PV.int .i64 n11,
 PV.int .i64 n12,
 PV.int .i64 n13]]).bind
 fun r29 =>
 (rdL
 (FS.fn 104
 [FS.ptr [FS.raw], FS.ptr [FS.raw],
 FS.ptr [FS.raw]])
 r29).bind
 fun ls30 =>
 (lint_unpaid_M
 [PV.agg
 [PV.rs 4 es1, PV.rs 3 es2, PV.rs 10 es3,
 PV.rs 3 es4, PV.rs 5 es5, PV.rs 4 es6,
 PV.rs 2 es7, PV.rs 3 es8, PV.rs 4 es9,
 PV.rs 6 es10, PV.int .i64 n11,
 PV.int .i64 n12,
 PV.int .i64 n13]]).bind
 fun r31 =>
 (rdL
 (FS.fn 104
 [FS.ptr [FS.raw], FS.ptr [FS.raw],
 FS.ptr [FS.raw]])
 r31).bind
 fun ls32 =>
 (Ab.asInt .i64 (ls20.getD 0 .bad)).bind
 fun n33 =>
 L.run (lint_Warnings_L8 L)
 (PV.agg [ls20.getD 1 .bad],
 PV.agg [ls20.getD 2 .bad], n33, 0,
 [ls20.getD 0 .bad, ls20.getD 1 .bad,
 ls20.getD 2 .bad],
 [ls22.getD 0 .bad, ls22.getD 1 .bad,
 ls22.getD 2 .bad],
 [ls24.getD 0 .bad, ls24.getD 1 .bad,
 ls24.getD 2 .bad],
 [ls26.getD 0 .bad, ls26.getD 1 .bad,
 ls26.getD 2 .bad],
 [ls28.getD 0 .bad, ls28.getD 1 .bad,
 ls28.getD 2 .bad, ls28.getD 3 .bad,
 ls28.getD 4 .bad, ls28.getD 5 .bad,
 ls28.getD 6 .bad, ls28.getD 7 .bad,
 ls28.getD 8 .bad, ls28.getD 9 .bad,
 ls28.getD 10 .bad, ls28.getD 11 .bad,
 ls28.getD 12 .bad, ls28.getD 13 .bad],
 [ls30.getD 0 .bad, ls30.getD 1 .bad,
 ls30.getD 2 .bad],
 [ls32.getD 0 .bad, ls32.getD 1 .bad,
 ls32.getD 2 .bad],
 [], ())
def lint_Warnings_M : List PV → Option PV
  | [p0] => lint_Warnings lpS p0
  | _ => none
def ref24_Same_L1 : (List PV × List PV × Int × Unit) → (List PV × List PV × Int × Unit → Option PV) → Option PV := fun s2 rec3 =>
 if decide (s2.2.2.1 < (↑s2.1.length : Int)) = true then
 (idxP s2.1 s2.2.2.1).bind fun p4 =>
 (idxP s2.2.1 s2.2.2.1).bind fun p5 =>
 if
 chk (Kd.int IntKind.i64 :: [].append (Kd.int IntKind.i64 :: [].append (Kd.int IntKind.i64 :: [].append [])))
 [cell p4 0, cell p4 1, cell p4 2] =
 true ∧
 chk (Kd.int IntKind.i64 :: [].append (Kd.int IntKind.i64 :: [].append (Kd.int IntKind.i64 :: [].append [])))
 [cell p5 0, cell p5 1, cell p5 2] =
 true then
 if (!peqL [cell p4 0, cell p4 1, cell p4 2] [cell p5 0, cell p5 1, cell p5 2]) = true then some (PV.bool false)
 else rec3 (s2.1, s2.2.1, IntKind.i64.wrap (s2.2.2.1 + 1), ())
 else none
else some (PV.bool true)
def ref24_Same (L : Lps) (p0 : PV) (p1 : PV) : Option PV :=
 (asSl 3 p0).bind fun es0 =>
 (asSl 3 p1).bind fun es1 =>
 if ((↑es0.length : Int) != (↑es1.length : Int)) = true then some (PV.bool false)
 else L.run ref24_Same_L1 (es0, es1, 0, ())
def ref24_Same_M : List PV → Option PV
  | [p0, p1] => ref24_Same lpS p0 p1
  | _ => none
def law24_exampleHolds (L : Lps) : Option PV :=
 (law24_example_M []).bind fun r0 =>
 (Ab.asAgg 13 r0).bind fun x1 =>
 (lint_Warnings_M
 [PV.agg
 [cell r0 0, cell r0 1, cell r0 2, cell r0 3, cell r0 4, cell r0 5, cell r0 6, cell r0 7, cell r0 8,
 cell r0 9, cell r0 10, cell r0 11, cell r0 12]]).bind
 fun r2 =>
 (asSl 3 r2).bind fun es3 =>
 (law24_to_M [PV.rs 3 es3]).bind fun r4 =>
 (asSl 3 r4).bind fun es5 =>
 (ref24_Same_M
 [PV.rs 3 es5,
 PV.rs 3
 [PV.agg [PV.int .i64 1, PV.int .i64 2, PV.int .i64 0],
 PV.agg [PV.int .i64 6, PV.int .i64 0, PV.int .i64 0],
 PV.agg [PV.int .i64 6, PV.int .i64 2, PV.int .i64 0],
 PV.agg [PV.int .i64 7, PV.int .i64 0, PV.int .i64 0]]]).bind
 fun r6 =>
 (Ab.asBool r6).bind fun b7 =>
 (bif b7 then
 (lint_Text_M
 [PV.agg
 [cell r0 0, cell r0 1, cell r0 2, cell r0 3, cell r0 4, cell r0 5, cell r0 6, cell r0 7,
 cell r0 8, cell r0 9, cell r0 10, cell r0 11, cell r0 12],
 PV.agg [PV.int .i64 1, PV.int .i64 2, PV.int .i64 0]]).bind
 fun r8 =>
 (asStr r8).bind fun s9 =>
 some
 (s9 ==
 [115, 116, 111, 112, 32, 99, 32, 105, 115, 32, 110, 111, 116, 32, 117, 115, 101, 100])
 else some false).bind
 fun r10 =>
 (bif r10 then
 (lint_Text_M
 [PV.agg
 [cell r0 0, cell r0 1, cell r0 2, cell r0 3, cell r0 4, cell r0 5, cell r0 6,
 cell r0 7, cell r0 8, cell r0 9, cell r0 10, cell r0 11, cell r0 12],
 PV.agg [PV.int .i64 1, PV.int .i64 0, PV.int .i64 1]]).bind
 fun r11 => (asStr r11).bind fun s12 => some (s12 == [])
 else some false).bind
 fun r13 =>
 (bif r13 then
 (lint_Text_M
 [PV.agg
 [cell r0 0, cell r0 1, cell r0 2, cell r0 3, cell r0 4, cell r0 5, cell r0 6,
 cell r0 7, cell r0 8, cell r0 9, cell r0 10, cell r0 11, cell r0 12],
 PV.agg [PV.int .i64 5, PV.int .i64 0, PV.int .i64 0]]).bind
 fun r14 =>
 (asStr r14).bind fun s15 =>
 some
 (s15 ==
 [116, 114, 105, 112, 32, 120, 32, 111, 118, 101, 114, 116, 97, 107, 101, 115, 32, 116,
 114, 105, 112, 32, 120])
 else some false).bind
 fun r16 => some (PV.bool r16)
def law24_exampleHolds_M : List PV → Option PV
  | [] => law24_exampleHolds lpS 
  | _ => none
def ref18_Sound (L : Lps) (p0 : PV) : Option PV :=
 (Ab.asAgg 4 p0).bind fun x0 =>
 (Ab.asInt .i64 (cell p0 0)).bind fun n1 =>
 (Ab.asInt .i64 (cell p0 1)).bind fun n2 =>
 (Ab.asInt .i64 (cell p0 2)).bind fun n3 =>
 (Ab.asInt .i64 (cell p0 3)).bind fun n4 =>
 (bif decide (n2 ≥ 0) then some (decide (n2 ≤ 172800)) else some false).bind fun r5 =>
 (bif r5 then some (decide (n3 ≥ 0)) else some false).bind fun r6 =>
 (bif r6 then some (decide (n3 ≤ 172800)) else some false).bind fun r7 =>
 (bif r7 then some (decide (n2 < n3)) else some false).bind fun r8 =>
 (bif r8 then some (decide (n4 ≥ 1)) else some false).bind fun r9 =>
 (bif r9 then some (decide (n4 ≤ 86400)) else some false).bind fun r10 => some (PV.bool r10)
def ref18_Sound_M : List PV → Option PV
  | [p0] => ref18_Sound lpS p0
  | _ => none
def ref18_count (L : Lps) (p0 : PV) : Option PV :=
 (Ab.asAgg 4 p0).bind fun x0 =>
 (Ab.asInt .i64 (cell p0 0)).bind fun n1 =>
 (Ab.asInt .i64 (cell p0 1)).bind fun n2 =>
 (Ab.asInt .i64 (cell p0 2)).bind fun n3 =>
 (Ab.asInt .i64 (cell p0 3)).bind fun n4 =>
 if n4 = 0 then none
 else
 some
 (PV.int .i64
 (IntKind.i64.wrap (IntKind.i64.wrap ((IntKind.i64.wrap (IntKind.i64.wrap (n3 - n2) - 1)).tdiv n4) + 1)))
def ref18_count_M : List PV → Option PV
  | [p0] => ref18_count lpS p0
  | _ => none
def ref18_Many_L1 : (List PV × Int × Int × Int × Unit) → (List PV × Int × Int × Int × Unit → Option PV) → Option PV := fun s2 rec3 =>
 if decide (s2.2.2.2.1 < (↑s2.1.length : Int)) = true then
 (idxP s2.1 s2.2.2.2.1).bind fun p4 =>
 (ref18_Sound_M [PV.agg [cell p4 0, cell p4 1, cell p4 2, cell p4 3]]).bind fun r5 =>
 (Ab.asBool r5).bind fun b6 =>
 if b6 = true then
 (idxP s2.1 s2.2.2.2.1).bind fun p7 =>
 (ref18_count_M [PV.agg [cell p7 0, cell p7 1, cell p7 2, cell p7 3]]).bind fun r8 =>
 (Ab.asInt .i64 r8).bind fun n9 =>
 rec3
 (s2.1, s2.2.1, IntKind.i64.wrap (s2.2.2.1 + n9),
 IntKind.i64.wrap (s2.2.2.2.1 + 1), ())
 else rec3 (s2.1, s2.2.1, s2.2.2.1, IntKind.i64.wrap (s2.2.2.2.1 + 1), ())
else some (PV.bool (decide (s2.2.2.1 > s2.2.1)))
def ref18_Many (L : Lps) (p0 : PV) (p1 : PV) : Option PV :=
 (asSl 4 p0).bind fun es0 =>
 (Ab.asInt .i64 p1).bind fun n1 =>
 if decide ((↑es0.length : Int) > 100) = true then some (PV.bool true) else L.run ref18_Many_L1 (es0, n1, 0, 0, ())
def ref18_Many_M : List PV → Option PV
  | [p0, p1] => ref18_Many lpS p0 p1
  | _ => none
def ref24_Large_L1 : (Int ×
 List PV ×
 List PV × List PV × List PV × List PV × List PV × List PV × List PV × List PV × List PV × Int × Int × Int × Unit) → (Int ×
 List PV ×
 List PV ×
 List PV × List PV × List PV × List PV × List PV × List PV × List PV × List PV × Int × Int × Int × Unit →
 Option PV) → Option PV := fun s25 rec26 =>
 if decide (s25.1 < (↑s25.2.2.2.2.2.1.length : Int)) = true then
 (idxP s25.2.2.2.2.2.1 s25.1).bind fun p27 =>
 (asSl 5 (cell p27 4)).bind fun es28 =>
 if decide ((↑es28.length : Int) > 40) = true then some (PV.bool true)
 else
 rec26
 (IntKind.i64.wrap (s25.1 + 1), s25.2.1, s25.2.2.1, s25.2.2.2.1, s25.2.2.2.2.1,
 s25.2.2.2.2.2.1, s25.2.2.2.2.2.2.1, s25.2.2.2.2.2.2.2.1,
 s25.2.2.2.2.2.2.2.2.1, s25.2.2.2.2.2.2.2.2.2.1,
 s25.2.2.2.2.2.2.2.2.2.2.1, s25.2.2.2.2.2.2.2.2.2.2.2.1,
 s25.2.2.2.2.2.2.2.2.2.2.2.2.1,
 s25.2.2.2.2.2.2.2.2.2.2.2.2.2.1, ())
else some (PV.bool false)
def ref24_Large (L : Lps) (p0 : PV) : Option PV :=
 (Ab.asAgg 13 p0).bind fun x0 =>
 (asSl 4 (cell p0 0)).bind fun es1 =>
 (asSl 3 (cell p0 1)).bind fun es2 =>
 (asSl 10 (cell p0 2)).bind fun es3 =>
 (asSl 3 (cell p0 3)).bind fun es4 =>
 (asSl 5 (cell p0 4)).bind fun es5 =>
 (asSl 4 (cell p0 5)).bind fun es6 =>
 (asSl 2 (cell p0 6)).bind fun es7 =>
 (asSl 3 (cell p0 7)).bind fun es8 =>
 (asSl 4 (cell p0 8)).bind fun es9 =>
 (asSl 6 (cell p0 9)).bind fun es10 =>
 (Ab.asInt .i64 (cell p0 10)).bind fun n11 =>
 (Ab.asInt .i64 (cell p0 11)).bind fun n12 =>
 (Ab.asInt .i64 (cell p0 12)).bind fun n13 =>
 (bif decide ((↑es1.length : Int) > 70) then some true
 else some (decide ((↑es2.length : Int) > 70))).bind
 fun r14 =>
 (bif r14 then some true else some (decide ((↑es3.length : Int) > 70))).bind fun r15 =>
 (bif r15 then some true else some (decide ((↑es4.length : Int) > 40))).bind fun r16 =>
 (bif r16 then some true else some (decide ((↑es5.length : Int) > 12))).bind fun r17 =>
 (bif r17 then some true else some (decide ((↑es7.length : Int) > 40))).bind
 fun r18 =>
 (bif r18 then some true else some (decide ((↑es8.length : Int) > 40))).bind
 fun r19 =>
 (bif r19 then some true else some (decide ((↑es9.length : Int) > 60))).bind
 fun r20 =>
 (bif r20 then some true else some (decide ((↑es10.length : Int) > 20))).bind
 fun r21 =>
 (bif r21 then some true
 else
 (ref18_Many_M [PV.rs 4 es6, PV.int .i64 600]).bind fun r22 =>
 (Ab.asBool r22).bind fun b23 => some b23).bind
 fun r24 =>
 if r24 = true then some (PV.bool true)
 else
 L.run ref24_Large_L1
 (0, es1, es2, es3, es4, es5, es6, es7, es8, es9, es10, n11, n12, n13,
 ())
def ref24_Large_M : List PV → Option PV
  | [p0] => ref24_Large lpS p0
  | _ => none
def ref02_Valid (L : Lps) (p0 : PV) : Option PV :=
 (Ab.asInt .i64 p0).bind fun n0 =>
 (bif decide (n0 ≥ 0) then some (decide (n0 ≤ 36524)) else some false).bind fun r1 => some (PV.bool r1)
def ref02_Valid_M : List PV → Option PV
  | [p0] => ref02_Valid lpS p0
  | _ => none
def ref02_Weekday (L : Lps) (p0 : PV) : Option PV :=
 (Ab.asInt .i64 p0).bind fun n0 =>
 (ref02_Valid_M [PV.int .i64 n0]).bind fun r1 =>
 (Ab.asBool r1).bind fun b2 =>
 if (!b2) = true then some (PV.tup [PV.int .i64 0, PV.bool false])
 else some (PV.tup [PV.int .i64 ((IntKind.i64.wrap (n0 + 5)).tmod 7), PV.bool true])
def ref02_Weekday_M : List PV → Option PV
  | [p0] => ref02_Weekday lpS p0
  | _ => none
def ref14_Reason_L1 (L : Lps) : (List PV × List PV × Int × Int × Int × Unit) → (List PV × List PV × Int × Int × Int × Unit → Option PV) → Option PV := fun s8 rec9 =>
 if decide (s8.2.2.2.2.1 < (↑s8.2.1.length : Int)) = true then
 (idxP s8.2.1 s8.2.2.2.2.1).bind fun p10 =>
 (Ab.asInt .i64 (cell p10 0)).bind fun n11 =>
 (bif n11 == s8.2.2.1 then
 (idxP s8.2.1 s8.2.2.2.2.1).bind fun p12 =>
 (Ab.asInt .i64 (cell p12 1)).bind fun n13 => some (n13 == s8.2.2.2.1)
 else some false).bind
 fun r14 =>
 if r14 = true then
 (idxP s8.2.1 s8.2.2.2.2.1).bind fun p15 =>
 (Ab.asBool (cell p15 2)).bind fun b16 =>
 if b16 = true then some (PV.int .i64 2) else some (PV.int .i64 3)
 else
 rec9
 (s8.1, s8.2.1, s8.2.2.1, s8.2.2.2.1, IntKind.i64.wrap (s8.2.2.2.2.1 + 1), ())
else
 (idxP s8.1 s8.2.2.1).bind fun p17 =>
 (Ab.asInt .i64 (cell p17 8)).bind fun n18 =>
 (bif decide (s8.2.2.2.1 < n18) then some true
 else
 (idxP s8.1 s8.2.2.1).bind fun p19 =>
 (Ab.asInt .i64 (cell p19 9)).bind fun n20 => some (decide (s8.2.2.2.1 > n20))).bind
 fun r21 =>
 if r21 = true then some (PV.int .i64 5)
 else
 (ref02_Weekday_M [PV.int .i64 s8.2.2.2.1]).bind fun r22 =>
 (asTup 2 r22).bind fun vs23 =>
 (Ab.asInt .i64 (vs23.getD 0 .bad)).bind fun n24 =>
 (Ab.asBool (vs23.getD 1 .bad)).bind fun b25 =>
 (idxP s8.1 s8.2.2.1).bind fun p26 =>
 if inRange n24 7 ∧ 0 < 1 then
 (List.drop (n24.toNat * 1)
 [cell p26 1, cell p26 2, cell p26 3, cell p26 4, cell p26 5, cell p26 6, cell p26 7,
 cell p26 8, cell p26 9]).head?.bind
 fun p27 =>
 (Ab.asBool p27).bind fun b28 =>
 if b28 = true then some (PV.int .i64 1) else some (PV.int .i64 4)
 else none
def ref14_Reason (L : Lps) (p0 : PV) (p1 : PV) (p2 : PV) (p3 : PV) : Option PV :=
 (asSl 10 p0).bind fun es0 =>
 (asSl 3 p1).bind fun es1 =>
 (Ab.asInt .i64 p2).bind fun n2 =>
 (Ab.asInt .i64 p3).bind fun n3 =>
 (bif decide (n2 < 0) then some true else some (decide (n2 ≥ (↑es0.length : Int)))).bind fun r4 =>
 (bif r4 then some true
 else (ref02_Valid_M [PV.int .i64 n3]).bind fun r5 => (Ab.asBool r5).bind fun b6 => some !b6).bind
 fun r7 =>
 if r7 = true then some (PV.int .i64 0) else L.run (ref14_Reason_L1 L) (es0, es1, n2, n3, 0, ())
def ref14_Reason_M : List PV → Option PV
  | [p0, p1, p2, p3] => ref14_Reason lpS p0 p1 p2 p3
  | _ => none
def ref14_Active (L : Lps) (p0 : PV) (p1 : PV) (p2 : PV) (p3 : PV) : Option PV :=
 (asSl 10 p0).bind fun es0 =>
 (asSl 3 p1).bind fun es1 =>
 (Ab.asInt .i64 p2).bind fun n2 =>
 (Ab.asInt .i64 p3).bind fun n3 =>
 (ref14_Reason_M [PV.rs 10 es0, PV.rs 3 es1, PV.int .i64 n2, PV.int .i64 n3]).bind fun r4 =>
 (Ab.asInt .i64 r4).bind fun n5 =>
 (bif n5 == 1 then some true else some (n5 == 2)).bind fun r6 => some (PV.bool r6)
def ref14_Active_M : List PV → Option PV
  | [p0, p1, p2, p3] => ref14_Active lpS p0 p1 p2 p3
  | _ => none
def ref14_Next_L1 : (List PV × List PV × Int × Int × Unit) → (List PV × List PV × Int × Int × Unit → Option PV) → Option PV := fun s4 rec5 =>
 if decide (s4.2.2.2.1 ≤ 36524) = true then
 (ref14_Active_M
 [PV.rs 10 s4.1, PV.rs 3 s4.2.1, PV.int .i64 s4.2.2.1,
 PV.int .i64 s4.2.2.2.1]).bind
 fun r6 =>
 (Ab.asBool r6).bind fun b7 =>
 if b7 = true then some (PV.tup [PV.int .i64 s4.2.2.2.1, PV.bool true])
 else rec5 (s4.1, s4.2.1, s4.2.2.1, IntKind.i64.wrap (s4.2.2.2.1 + 1), ())
else some (PV.tup [PV.int .i64 0, PV.bool false])
def ref14_Next_L2 : (List PV × List PV × Int × Int × Unit) → (List PV × List PV × Int × Int × Unit → Option PV) → Option PV := fun s8 rec9 =>
 if decide (s8.2.2.2.1 ≤ 36524) = true then
 (ref14_Active_M
 [PV.rs 10 s8.1, PV.rs 3 s8.2.1, PV.int .i64 s8.2.2.1,
 PV.int .i64 s8.2.2.2.1]).bind
 fun r10 =>
 (Ab.asBool r10).bind fun b11 =>
 if b11 = true then some (PV.tup [PV.int .i64 s8.2.2.2.1, PV.bool true])
 else rec9 (s8.1, s8.2.1, s8.2.2.1, IntKind.i64.wrap (s8.2.2.2.1 + 1), ())
else some (PV.tup [PV.int .i64 0, PV.bool false])
def ref14_Next (L : Lps) (p0 : PV) (p1 : PV) (p2 : PV) (p3 : PV) : Option PV :=
 (asSl 10 p0).bind fun es0 =>
 (asSl 3 p1).bind fun es1 =>
 (Ab.asInt .i64 p2).bind fun n2 =>
 (Ab.asInt .i64 p3).bind fun n3 =>
 if decide (n3 < 0) = true then L.run ref14_Next_L1 (es0, es1, n2, 0, ())
 else L.run ref14_Next_L2 (es0, es1, n2, n3, ())
def ref14_Next_M : List PV → Option PV
  | [p0, p1, p2, p3] => ref14_Next lpS p0 p1 p2 p3
  | _ => none
def ref24_calendarUsed_L1 : (Int ×
 Int ×
 List PV ×
 List PV × List PV × List PV × List PV × List PV × List PV × List PV × List PV × List PV × Int × Int × Int × Unit) → (Int ×
 Int ×
 List PV ×
 List PV ×
 List PV × List PV × List PV × List PV × List PV × List PV × List PV × List PV × Int × Int × Int × Unit →
 Option PV) → Option PV := fun s15 rec16 =>
 if decide (s15.2.1 < (↑s15.2.2.2.2.2.2.1.length : Int)) = true then
 (idxP s15.2.2.2.2.2.2.1 s15.2.1).bind fun p17 =>
 (Ab.asInt .i64 (cell p17 2)).bind fun n18 =>
 if (n18 == s15.1) = true then some (PV.bool true)
 else
 rec16
 (s15.1, IntKind.i64.wrap (s15.2.1 + 1), s15.2.2.1, s15.2.2.2.1, s15.2.2.2.2.1,
 s15.2.2.2.2.2.1, s15.2.2.2.2.2.2.1, s15.2.2.2.2.2.2.2.1,
 s15.2.2.2.2.2.2.2.2.1, s15.2.2.2.2.2.2.2.2.2.1,
 s15.2.2.2.2.2.2.2.2.2.2.1, s15.2.2.2.2.2.2.2.2.2.2.2.1,
 s15.2.2.2.2.2.2.2.2.2.2.2.2.1,
 s15.2.2.2.2.2.2.2.2.2.2.2.2.2.1,
 s15.2.2.2.2.2.2.2.2.2.2.2.2.2.2.1, ())
else some (PV.bool false)
def ref24_calendarUsed (L : Lps) (p0 : PV) (p1 : PV) : Option PV :=
 (Ab.asAgg 13 p0).bind fun x0 =>
 (asSl 4 (cell p0 0)).bind fun es1 =>
 (asSl 3 (cell p0 1)).bind fun es2 =>
 (asSl 10 (cell p0 2)).bind fun es3 =>
 (asSl 3 (cell p0 3)).bind fun es4 =>
 (asSl 5 (cell p0 4)).bind fun es5 =>
 (asSl 4 (cell p0 5)).bind fun es6 =>
 (asSl 2 (cell p0 6)).bind fun es7 =>
 (asSl 3 (cell p0 7)).bind fun es8 =>
 (asSl 4 (cell p0 8)).bind fun es9 =>
 (asSl 6 (cell p0 9)).bind fun es10 =>
 (Ab.asInt .i64 (cell p0 10)).bind fun n11 =>
 (Ab.asInt .i64 (cell p0 11)).bind fun n12 =>
 (Ab.asInt .i64 (cell p0 12)).bind fun n13 =>
 (Ab.asInt .i64 p1).bind fun n14 =>
 L.run ref24_calendarUsed_L1
 (n14, 0, es1, es2, es3, es4, es5, es6, es7, es8, es9, es10, n11, n12, n13, ())
def ref24_calendarUsed_M : List PV → Option PV
  | [p0, p1] => ref24_calendarUsed lpS p0 p1
  | _ => none
def ref17_SamePattern_L1 : (Int × Bytes × Int × Int × Bool × List PV × Bytes × Int × Int × Bool × List PV × Unit) → (Int × Bytes × Int × Int × Bool × List PV × Bytes × Int × Int × Bool × List PV × Unit → Option PV) → Option PV := fun s12 rec13 =>
 if decide (s12.1 < (↑s12.2.2.2.2.2.1.length : Int)) = true then
 (idxP s12.2.2.2.2.2.1 s12.1).bind fun p14 =>
 (idxP s12.2.2.2.2.2.2.2.2.2.2.1 s12.1).bind fun p15 =>
 (Ab.asInt .i64 (cell p14 0)).bind fun n16 =>
 (Ab.asInt .i64 (cell p15 0)).bind fun n17 =>
 (bif n16 != n17 then some true
 else
 (Ab.asBool (cell p14 3)).bind fun b18 => (Ab.asBool (cell p15 3)).bind fun b19 => some !b18 == b19).bind
 fun r20 =>
 (bif r20 then some true
 else
 (Ab.asBool (cell p14 4)).bind fun b21 =>
 (Ab.asBool (cell p15 4)).bind fun b22 => some !b21 == b22).bind
 fun r23 =>
 if r23 = true then some (PV.bool false)
 else
 rec13
 (IntKind.i64.wrap (s12.1 + 1), s12.2.1, s12.2.2.1, s12.2.2.2.1,
 s12.2.2.2.2.1, s12.2.2.2.2.2.1, s12.2.2.2.2.2.2.1,
 s12.2.2.2.2.2.2.2.1, s12.2.2.2.2.2.2.2.2.1,
 s12.2.2.2.2.2.2.2.2.2.1, s12.2.2.2.2.2.2.2.2.2.2.1, ())
else some (PV.bool true)
def ref17_SamePattern (L : Lps) (p0 : PV) (p1 : PV) : Option PV :=
 (Ab.asAgg 5 p0).bind fun x0 =>
 (asStr (cell p0 0)).bind fun s1 =>
 (Ab.asInt .i64 (cell p0 1)).bind fun n2 =>
 (Ab.asInt .i64 (cell p0 2)).bind fun n3 =>
 (Ab.asBool (cell p0 3)).bind fun b4 =>
 (asSl 5 (cell p0 4)).bind fun es5 =>
 (Ab.asAgg 5 p1).bind fun x6 =>
 (asStr (cell p1 0)).bind fun s7 =>
 (Ab.asInt .i64 (cell p1 1)).bind fun n8 =>
 (Ab.asInt .i64 (cell p1 2)).bind fun n9 =>
 (Ab.asBool (cell p1 3)).bind fun b10 =>
 (asSl 5 (cell p1 4)).bind fun es11 =>
 if ((↑es5.length : Int) != (↑es11.length : Int)) = true then some (PV.bool false)
 else L.run ref17_SamePattern_L1 (0, s1, n2, n3, b4, es5, s7, n8, n9, b10, es11, ())
def ref17_SamePattern_M : List PV → Option PV
  | [p0, p1] => ref17_SamePattern lpS p0 p1
  | _ => none
def ref17_event (L : Lps) (p0 : PV) (p1 : PV) : Option PV :=
 (Ab.asAgg 5 p0).bind fun x0 =>
 (asStr (cell p0 0)).bind fun s1 =>
 (Ab.asInt .i64 (cell p0 1)).bind fun n2 =>
 (Ab.asInt .i64 (cell p0 2)).bind fun n3 =>
 (Ab.asBool (cell p0 3)).bind fun b4 =>
 (asSl 5 (cell p0 4)).bind fun es5 =>
 (Ab.asInt .i64 p1).bind fun n6 =>
 if (n6.tmod 2 == 0) = true then
 (idxP es5 (IntKind.i64.wrap (n6.tdiv 2))).bind fun p7 =>
 (Ab.asInt .i64 (cell p7 1)).bind fun n8 => some (PV.int .i64 n8)
 else
 (idxP es5 (IntKind.i64.wrap (n6.tdiv 2))).bind fun p9 =>
 (Ab.asInt .i64 (cell p9 2)).bind fun n10 => some (PV.int .i64 n10)
def ref17_event_M : List PV → Option PV
  | [p0, p1] => ref17_event lpS p0 p1
  | _ => none
def ref17_Overtakes_L1 (rec15 : Int × Bytes × Int × Int × Bool × List PV × Bytes × Int × Int × Bool × List PV × Unit → Option PV) : (Int × Int × Bytes × Int × Int × Bool × List PV × Bytes × Int × Int × Bool × List PV × Unit) → (Int × Int × Bytes × Int × Int × Bool × List PV × Bytes × Int × Int × Bool × List PV × Unit → Option PV) → Option PV := fun s16 rec17 =>
 if decide (s16.2.1 < IntKind.i64.wrap (2 * (↑s16.2.2.2.2.2.2.1.length : Int))) = true then
 (ref17_event_M
 [PV.agg
 [PV.str s16.2.2.1, PV.int .i64 s16.2.2.2.1, PV.int .i64 s16.2.2.2.2.1,
 PV.bool s16.2.2.2.2.2.1, PV.rs 5 s16.2.2.2.2.2.2.1],
 PV.int .i64 s16.1]).bind
 fun r18 =>
 (Ab.asInt .i64 r18).bind fun n19 =>
 (ref17_event_M
 [PV.agg
 [PV.str s16.2.2.2.2.2.2.2.1, PV.int .i64 s16.2.2.2.2.2.2.2.2.1,
 PV.int .i64 s16.2.2.2.2.2.2.2.2.2.1,
 PV.bool s16.2.2.2.2.2.2.2.2.2.2.1,
 PV.rs 5 s16.2.2.2.2.2.2.2.2.2.2.2.1],
 PV.int .i64 s16.1]).bind
 fun r20 =>
 (Ab.asInt .i64 r20).bind fun n21 =>
 (bif decide (n19 > n21) then
 (ref17_event_M
 [PV.agg
 [PV.str s16.2.2.1, PV.int .i64 s16.2.2.2.1,
 PV.int .i64 s16.2.2.2.2.1, PV.bool s16.2.2.2.2.2.1,
 PV.rs 5 s16.2.2.2.2.2.2.1],
 PV.int .i64 s16.2.1]).bind
 fun r22 =>
 (Ab.asInt .i64 r22).bind fun n23 =>
 (ref17_event_M
 [PV.agg
 [PV.str s16.2.2.2.2.2.2.2.1,
 PV.int .i64 s16.2.2.2.2.2.2.2.2.1,
 PV.int .i64 s16.2.2.2.2.2.2.2.2.2.1,
 PV.bool s16.2.2.2.2.2.2.2.2.2.2.1,
 PV.rs 5 s16.2.2.2.2.2.2.2.2.2.2.2.1],
 PV.int .i64 s16.2.1]).bind
 fun r24 => (Ab.asInt .i64 r24).bind fun n25 => some (decide (n23 < n25))
 else some false).bind
 fun r26 =>
 if r26 = true then some (PV.bool true)
 else
 rec17
 (s16.1, IntKind.i64.wrap (s16.2.1 + 1), s16.2.2.1, s16.2.2.2.1,
 s16.2.2.2.2.1, s16.2.2.2.2.2.1, s16.2.2.2.2.2.2.1,
 s16.2.2.2.2.2.2.2.1, s16.2.2.2.2.2.2.2.2.1,
 s16.2.2.2.2.2.2.2.2.2.1, s16.2.2.2.2.2.2.2.2.2.2.1,
 s16.2.2.2.2.2.2.2.2.2.2.2.1, ())
else
 rec15
 (IntKind.i64.wrap (s16.1 + 1), s16.2.2.1, s16.2.2.2.1, s16.2.2.2.2.1,
 s16.2.2.2.2.2.1, s16.2.2.2.2.2.2.1, s16.2.2.2.2.2.2.2.1,
 s16.2.2.2.2.2.2.2.2.1, s16.2.2.2.2.2.2.2.2.2.1,
 s16.2.2.2.2.2.2.2.2.2.2.1, s16.2.2.2.2.2.2.2.2.2.2.2.1, ())
def ref17_Overtakes_L2 (L : Lps) : (Int × Bytes × Int × Int × Bool × List PV × Bytes × Int × Int × Bool × List PV × Unit) → (Int × Bytes × Int × Int × Bool × List PV × Bytes × Int × Int × Bool × List PV × Unit → Option PV) → Option PV := fun s14 rec15 =>
 if decide (s14.1 < IntKind.i64.wrap (2 * (↑s14.2.2.2.2.2.1.length : Int))) = true then
 L.run (ref17_Overtakes_L1 rec15)
 (s14.1, IntKind.i64.wrap (s14.1 + 1), s14.2.1, s14.2.2.1, s14.2.2.2.1,
 s14.2.2.2.2.1, s14.2.2.2.2.2.1, s14.2.2.2.2.2.2.1,
 s14.2.2.2.2.2.2.2.1, s14.2.2.2.2.2.2.2.2.1,
 s14.2.2.2.2.2.2.2.2.2.1, s14.2.2.2.2.2.2.2.2.2.2.1, ())
else some (PV.bool false)
def ref17_Overtakes (L : Lps) (p0 : PV) (p1 : PV) : Option PV :=
 (Ab.asAgg 5 p0).bind fun x0 =>
 (asStr (cell p0 0)).bind fun s1 =>
 (Ab.asInt .i64 (cell p0 1)).bind fun n2 =>
 (Ab.asInt .i64 (cell p0 2)).bind fun n3 =>
 (Ab.asBool (cell p0 3)).bind fun b4 =>
 (asSl 5 (cell p0 4)).bind fun es5 =>
 (Ab.asAgg 5 p1).bind fun x6 =>
 (asStr (cell p1 0)).bind fun s7 =>
 (Ab.asInt .i64 (cell p1 1)).bind fun n8 =>
 (Ab.asInt .i64 (cell p1 2)).bind fun n9 =>
 (Ab.asBool (cell p1 3)).bind fun b10 =>
 (asSl 5 (cell p1 4)).bind fun es11 =>
 (ref17_SamePattern_M
 [PV.agg
 [PV.str s1, PV.int .i64 n2, PV.int .i64 n3, PV.bool b4, PV.rs 5 es5],
 PV.agg
 [PV.str s7, PV.int .i64 n8, PV.int .i64 n9, PV.bool b10,
 PV.rs 5 es11]]).bind
 fun r12 =>
 (Ab.asBool r12).bind fun b13 =>
 if (!b13) = true then some (PV.bool false)
 else L.run (ref17_Overtakes_L2 L) (0, s1, n2, n3, b4, es5, s7, n8, n9, b10, es11, ())
def ref17_Overtakes_M : List PV → Option PV
  | [p0, p1] => ref17_Overtakes lpS p0 p1
  | _ => none
def ref18_Repeated_L1 : (List PV × Int × Int × Unit) → (List PV × Int × Int × Unit → Option PV) → Option PV := fun s2 rec3 =>
 if decide (s2.2.2.1 < (↑s2.1.length : Int)) = true then
 (idxP s2.1 s2.2.2.1).bind fun p4 =>
 (Ab.asInt .i64 (cell p4 0)).bind fun n5 =>
 if (n5 == s2.2.1) = true then some (PV.bool true)
 else rec3 (s2.1, s2.2.1, IntKind.i64.wrap (s2.2.2.1 + 1), ())
else some (PV.bool false)
def ref18_Repeated (L : Lps) (p0 : PV) (p1 : PV) : Option PV :=
 (asSl 4 p0).bind fun es0 => (Ab.asInt .i64 p1).bind fun n1 => L.run ref18_Repeated_L1 (es0, n1, 0, ())
def ref18_Repeated_M : List PV → Option PV
  | [p0, p1] => ref18_Repeated lpS p0 p1
  | _ => none
def ref24_overtakes (L : Lps) (p0 : PV) (p1 : PV) (p2 : PV) : Option PV :=
 (Ab.asAgg 13 p0).bind fun x0 =>
 (asSl 4 (cell p0 0)).bind fun es1 =>
 (asSl 3 (cell p0 1)).bind fun es2 =>
 (asSl 10 (cell p0 2)).bind fun es3 =>
 (asSl 3 (cell p0 3)).bind fun es4 =>
 (asSl 5 (cell p0 4)).bind fun es5 =>
 (asSl 4 (cell p0 5)).bind fun es6 =>
 (asSl 2 (cell p0 6)).bind fun es7 =>
 (asSl 3 (cell p0 7)).bind fun es8 =>
 (asSl 4 (cell p0 8)).bind fun es9 =>
 (asSl 6 (cell p0 9)).bind fun es10 =>
 (Ab.asInt .i64 (cell p0 10)).bind fun n11 =>
 (Ab.asInt .i64 (cell p0 11)).bind fun n12 =>
 (Ab.asInt .i64 (cell p0 12)).bind fun n13 =>
 (Ab.asInt .i64 p1).bind fun n14 =>
 (Ab.asInt .i64 p2).bind fun n15 =>
 (bif n14 != n15 then
 (idxP es5 n14).bind fun p16 =>
 (Ab.asInt .i64 (cell p16 2)).bind fun n17 =>
 (idxP es5 n15).bind fun p18 =>
 (Ab.asInt .i64 (cell p18 2)).bind fun n19 => some (n17 == n19)
 else some false).bind
 fun r20 =>
 (bif r20 then
 (ref18_Repeated_M [PV.rs 4 es6, PV.int .i64 n14]).bind fun r21 =>
 (Ab.asBool r21).bind fun b22 => some !b22
 else some false).bind
 fun r23 =>
 (bif r23 then
 (ref18_Repeated_M [PV.rs 4 es6, PV.int .i64 n15]).bind fun r24 =>
 (Ab.asBool r24).bind fun b25 => some !b25
 else some false).bind
 fun r26 =>
 (bif r26 then
 (idxP es5 n14).bind fun p27 =>
 (idxP es5 n15).bind fun p28 =>
 (ref17_Overtakes_M
 [PV.agg
 [cell p27 0, cell p27 1, cell p27 2, cell p27 3, cell p27 4],
 PV.agg
 [cell p28 0, cell p28 1, cell p28 2, cell p28 3,
 cell p28 4]]).bind
 fun r29 => (Ab.asBool r29).bind fun b30 => some b30
 else some false).bind
 fun r31 => some (PV.bool r31)
def ref24_overtakes_M : List PV → Option PV
  | [p0, p1, p2] => ref24_overtakes lpS p0 p1 p2
  | _ => none
def ref15_Bit (L : Lps) (p0 : PV) (p1 : PV) : Option PV :=
 (Ab.asInt .i64 p0).bind fun n0 =>
 (Ab.asInt .i64 p1).bind fun n1 =>
 if IntKind.u64.wrap n1 < 0 then none
 else
 some (PV.bool (((IntKind.u64.wrap n0).fdiv (2 ^ min (IntKind.u64.wrap n1).toNat IntKind.u64.bits)).tmod 2 == 1))
def ref15_Bit_M : List PV → Option PV
  | [p0, p1] => ref15_Bit lpS p0 p1
  | _ => none
def ref24_paid_L1 : (Int ×
 Int ×
 List PV ×
 List PV × List PV × List PV × List PV × List PV × List PV × List PV × List PV × List PV × Int × Int × Int × Unit) → (Int ×
 Int ×
 List PV ×
 List PV ×
 List PV × List PV × List PV × List PV × List PV × List PV × List PV × List PV × Int × Int × Int × Unit →
 Option PV) → Option PV := fun s15 rec16 =>
 if decide (s15.2.1 < (↑s15.2.2.2.2.2.2.2.2.2.2.2.1.length : Int)) = true then
 (idxP s15.2.2.2.2.2.2.2.2.2.2.2.1 s15.2.1).bind fun p17 =>
 (Ab.asInt .i64 (cell p17 5)).bind fun n18 =>
 (ref15_Bit_M [PV.int .i64 n18, PV.int .i64 s15.1]).bind fun r19 =>
 (Ab.asBool r19).bind fun b20 =>
 if b20 = true then some (PV.bool true)
 else
 rec16
 (s15.1, IntKind.i64.wrap (s15.2.1 + 1), s15.2.2.1, s15.2.2.2.1,
 s15.2.2.2.2.1, s15.2.2.2.2.2.1, s15.2.2.2.2.2.2.1,
 s15.2.2.2.2.2.2.2.1, s15.2.2.2.2.2.2.2.2.1,
 s15.2.2.2.2.2.2.2.2.2.1, s15.2.2.2.2.2.2.2.2.2.2.1,
 s15.2.2.2.2.2.2.2.2.2.2.2.1,
 s15.2.2.2.2.2.2.2.2.2.2.2.2.1,
 s15.2.2.2.2.2.2.2.2.2.2.2.2.2.1,
 s15.2.2.2.2.2.2.2.2.2.2.2.2.2.2.1, ())
else some (PV.bool false)
def ref24_paid (L : Lps) (p0 : PV) (p1 : PV) : Option PV :=
 (Ab.asAgg 13 p0).bind fun x0 =>
 (asSl 4 (cell p0 0)).bind fun es1 =>
 (asSl 3 (cell p0 1)).bind fun es2 =>
 (asSl 10 (cell p0 2)).bind fun es3 =>
 (asSl 3 (cell p0 3)).bind fun es4 =>
 (asSl 5 (cell p0 4)).bind fun es5 =>
 (asSl 4 (cell p0 5)).bind fun es6 =>
 (asSl 2 (cell p0 6)).bind fun es7 =>
 (asSl 3 (cell p0 7)).bind fun es8 =>
 (asSl 4 (cell p0 8)).bind fun es9 =>
 (asSl 6 (cell p0 9)).bind fun es10 =>
 (Ab.asInt .i64 (cell p0 10)).bind fun n11 =>
 (Ab.asInt .i64 (cell p0 11)).bind fun n12 =>
 (Ab.asInt .i64 (cell p0 12)).bind fun n13 =>
 (Ab.asInt .i64 p1).bind fun n14 =>
 L.run ref24_paid_L1
 (n14, 0, es1, es2, es3, es4, es5, es6, es7, es8, es9, es10, n11, n12, n13, ())
def ref24_paid_M : List PV → Option PV
  | [p0, p1] => ref24_paid lpS p0 p1
  | _ => none
def ref24_reached_L1 (rec16 : Int ×
 Int ×
 List PV ×
 List PV ×
 List PV × List PV × List PV × List PV × List PV × List PV × List PV × List PV × Int × Int × Int × Unit →
 Option PV) : (Int ×
 Int ×
 Int ×
 List PV ×
 List PV ×
 List PV × List PV × List PV × List PV × List PV × List PV × List PV × List PV × Int × Int × Int × Unit) → (Int ×
 Int ×
 Int ×
 List PV ×
 List PV ×
 List PV × List PV × List PV × List PV × List PV × List PV × List PV × List PV × Int × Int × Int × Unit →
 Option PV) → Option PV := fun s17 rec18 =>
 (idxP s17.2.2.2.2.2.2.2.1 s17.2.1).bind fun p19 =>
 (asSl 5 (cell p19 4)).bind fun es20 =>
 if decide (s17.2.2.1 < (↑es20.length : Int)) = true then
 (idxP s17.2.2.2.2.2.2.2.1 s17.2.1).bind fun p21 =>
 (asSl 5 (cell p21 4)).bind fun es22 =>
 (idxP es22 s17.2.2.1).bind fun p23 =>
 (Ab.asInt .i64 (cell p23 0)).bind fun n24 =>
 (bif n24 == s17.1 then
 (idxP s17.2.2.2.2.2.2.2.1 s17.2.1).bind fun p25 =>
 (asSl 5 (cell p25 4)).bind fun es26 =>
 (idxP es26 s17.2.2.1).bind fun p27 => (Ab.asBool (cell p27 4)).bind fun b28 => some b28
 else some false).bind
 fun r29 =>
 if r29 = true then some (PV.bool true)
 else
 rec18
 (s17.1, s17.2.1, IntKind.i64.wrap (s17.2.2.1 + 1), s17.2.2.2.1,
 s17.2.2.2.2.1, s17.2.2.2.2.2.1, s17.2.2.2.2.2.2.1,
 s17.2.2.2.2.2.2.2.1, s17.2.2.2.2.2.2.2.2.1,
 s17.2.2.2.2.2.2.2.2.2.1, s17.2.2.2.2.2.2.2.2.2.2.1,
 s17.2.2.2.2.2.2.2.2.2.2.2.1,
 s17.2.2.2.2.2.2.2.2.2.2.2.2.1,
 s17.2.2.2.2.2.2.2.2.2.2.2.2.2.1,
 s17.2.2.2.2.2.2.2.2.2.2.2.2.2.2.1,
 s17.2.2.2.2.2.2.2.2.2.2.2.2.2.2.2.1, ())
 else
 rec16
 (s17.1, IntKind.i64.wrap (s17.2.1 + 1), s17.2.2.2.1, s17.2.2.2.2.1,
 s17.2.2.2.2.2.1, s17.2.2.2.2.2.2.1, s17.2.2.2.2.2.2.2.1,
 s17.2.2.2.2.2.2.2.2.1, s17.2.2.2.2.2.2.2.2.2.1,
 s17.2.2.2.2.2.2.2.2.2.2.1, s17.2.2.2.2.2.2.2.2.2.2.2.1,
 s17.2.2.2.2.2.2.2.2.2.2.2.2.1,
 s17.2.2.2.2.2.2.2.2.2.2.2.2.2.1,
 s17.2.2.2.2.2.2.2.2.2.2.2.2.2.2.1,
 s17.2.2.2.2.2.2.2.2.2.2.2.2.2.2.2.1, ())
def ref24_reached_L2 : (Int ×
 Int ×
 List PV ×
 List PV × List PV × List PV × List PV × List PV × List PV × List PV × List PV × List PV × Int × Int × Int × Unit) → (Int ×
 Int ×
 List PV ×
 List PV ×
 List PV × List PV × List PV × List PV × List PV × List PV × List PV × List PV × Int × Int × Int × Unit →
 Option PV) → Option PV := fun s30 rec31 =>
 if decide (s30.2.1 < (↑s30.2.2.2.2.2.2.2.2.2.2.1.length : Int)) = true then
 (idxP s30.2.2.2.2.2.2.2.2.2.2.1 s30.2.1).bind fun p32 =>
 (Ab.asInt .i64 (cell p32 1)).bind fun n33 =>
 if (n33 == s30.1) = true then some (PV.bool true)
 else
 rec31
 (s30.1, IntKind.i64.wrap (s30.2.1 + 1), s30.2.2.1, s30.2.2.2.1, s30.2.2.2.2.1,
 s30.2.2.2.2.2.1, s30.2.2.2.2.2.2.1, s30.2.2.2.2.2.2.2.1,
 s30.2.2.2.2.2.2.2.2.1, s30.2.2.2.2.2.2.2.2.2.1,
 s30.2.2.2.2.2.2.2.2.2.2.1, s30.2.2.2.2.2.2.2.2.2.2.2.1,
 s30.2.2.2.2.2.2.2.2.2.2.2.2.1,
 s30.2.2.2.2.2.2.2.2.2.2.2.2.2.1,
 s30.2.2.2.2.2.2.2.2.2.2.2.2.2.2.1, ())
else some (PV.bool false)
def ref24_reached_L3 (L : Lps) : (Int ×
 Int ×
 List PV ×
 List PV × List PV × List PV × List PV × List PV × List PV × List PV × List PV × List PV × Int × Int × Int × Unit) → (Int ×
 Int ×
 List PV ×
 List PV ×
 List PV × List PV × List PV × List PV × List PV × List PV × List PV × List PV × Int × Int × Int × Unit →
 Option PV) → Option PV := fun s15 rec16 =>
 if decide (s15.2.1 < (↑s15.2.2.2.2.2.2.1.length : Int)) = true then
 L.run (ref24_reached_L1 rec16)
 (s15.1, s15.2.1, 1, s15.2.2.1, s15.2.2.2.1, s15.2.2.2.2.1,
 s15.2.2.2.2.2.1, s15.2.2.2.2.2.2.1, s15.2.2.2.2.2.2.2.1,
 s15.2.2.2.2.2.2.2.2.1, s15.2.2.2.2.2.2.2.2.2.1,
 s15.2.2.2.2.2.2.2.2.2.2.1, s15.2.2.2.2.2.2.2.2.2.2.2.1,
 s15.2.2.2.2.2.2.2.2.2.2.2.2.1,
 s15.2.2.2.2.2.2.2.2.2.2.2.2.2.1,
 s15.2.2.2.2.2.2.2.2.2.2.2.2.2.2.1, ())
else
 L.run ref24_reached_L2
 (s15.1, 0, s15.2.2.1, s15.2.2.2.1, s15.2.2.2.2.1, s15.2.2.2.2.2.1,
 s15.2.2.2.2.2.2.1, s15.2.2.2.2.2.2.2.1, s15.2.2.2.2.2.2.2.2.1,
 s15.2.2.2.2.2.2.2.2.2.1, s15.2.2.2.2.2.2.2.2.2.2.1,
 s15.2.2.2.2.2.2.2.2.2.2.2.1, s15.2.2.2.2.2.2.2.2.2.2.2.2.1,
 s15.2.2.2.2.2.2.2.2.2.2.2.2.2.1,
 s15.2.2.2.2.2.2.2.2.2.2.2.2.2.2.1, ())
def ref24_reached (L : Lps) (p0 : PV) (p1 : PV) : Option PV :=
 (Ab.asAgg 13 p0).bind fun x0 =>
 (asSl 4 (cell p0 0)).bind fun es1 =>
 (asSl 3 (cell p0 1)).bind fun es2 =>
 (asSl 10 (cell p0 2)).bind fun es3 =>
 (asSl 3 (cell p0 3)).bind fun es4 =>
 (asSl 5 (cell p0 4)).bind fun es5 =>
 (asSl 4 (cell p0 5)).bind fun es6 =>
 (asSl 2 (cell p0 6)).bind fun es7 =>
 (asSl 3 (cell p0 7)).bind fun es8 =>
 (asSl 4 (cell p0 8)).bind fun es9 =>
 (asSl 6 (cell p0 9)).bind fun es10 =>
 (Ab.asInt .i64 (cell p0 10)).bind fun n11 =>
 (Ab.asInt .i64 (cell p0 11)).bind fun n12 =>
 (Ab.asInt .i64 (cell p0 12)).bind fun n13 =>
 (Ab.asInt .i64 p1).bind fun n14 =>
 L.run (ref24_reached_L3 L)
 (n14, 0, es1, es2, es3, es4, es5, es6, es7, es8, es9, es10, n11, n12, n13, ())
def ref24_reached_M : List PV → Option PV
  | [p0, p1] => ref24_reached lpS p0 p1
  | _ => none
def ref24_routeUsed_L1 : (Int ×
 Int ×
 List PV ×
 List PV × List PV × List PV × List PV × List PV × List PV × List PV × List PV × List PV × Int × Int × Int × Unit) → (Int ×
 Int ×
 List PV ×
 List PV ×
 List PV × List PV × List PV × List PV × List PV × List PV × List PV × List PV × Int × Int × Int × Unit →
 Option PV) → Option PV := fun s15 rec16 =>
 if decide (s15.2.1 < (↑s15.2.2.2.2.2.2.1.length : Int)) = true then
 (idxP s15.2.2.2.2.2.2.1 s15.2.1).bind fun p17 =>
 (Ab.asInt .i64 (cell p17 1)).bind fun n18 =>
 if (n18 == s15.1) = true then some (PV.bool true)
 else
 rec16
 (s15.1, IntKind.i64.wrap (s15.2.1 + 1), s15.2.2.1, s15.2.2.2.1, s15.2.2.2.2.1,
 s15.2.2.2.2.2.1, s15.2.2.2.2.2.2.1, s15.2.2.2.2.2.2.2.1,
 s15.2.2.2.2.2.2.2.2.1, s15.2.2.2.2.2.2.2.2.2.1,
 s15.2.2.2.2.2.2.2.2.2.2.1, s15.2.2.2.2.2.2.2.2.2.2.2.1,
 s15.2.2.2.2.2.2.2.2.2.2.2.2.1,
 s15.2.2.2.2.2.2.2.2.2.2.2.2.2.1,
 s15.2.2.2.2.2.2.2.2.2.2.2.2.2.2.1, ())
else some (PV.bool false)
def ref24_routeUsed (L : Lps) (p0 : PV) (p1 : PV) : Option PV :=
 (Ab.asAgg 13 p0).bind fun x0 =>
 (asSl 4 (cell p0 0)).bind fun es1 =>
 (asSl 3 (cell p0 1)).bind fun es2 =>
 (asSl 10 (cell p0 2)).bind fun es3 =>
 (asSl 3 (cell p0 3)).bind fun es4 =>
 (asSl 5 (cell p0 4)).bind fun es5 =>
 (asSl 4 (cell p0 5)).bind fun es6 =>
 (asSl 2 (cell p0 6)).bind fun es7 =>
 (asSl 3 (cell p0 7)).bind fun es8 =>
 (asSl 4 (cell p0 8)).bind fun es9 =>
 (asSl 6 (cell p0 9)).bind fun es10 =>
 (Ab.asInt .i64 (cell p0 10)).bind fun n11 =>
 (Ab.asInt .i64 (cell p0 11)).bind fun n12 =>
 (Ab.asInt .i64 (cell p0 12)).bind fun n13 =>
 (Ab.asInt .i64 p1).bind fun n14 =>
 L.run ref24_routeUsed_L1
 (n14, 0, es1, es2, es3, es4, es5, es6, es7, es8, es9, es10, n11, n12, n13, ())
def ref24_routeUsed_M : List PV → Option PV
  | [p0, p1] => ref24_routeUsed lpS p0 p1
  | _ => none
def ref24_stopUsed_L1 (rec16 : Int ×
 Int ×
 List PV ×
 List PV ×
 List PV × List PV × List PV × List PV × List PV × List PV × List PV × List PV × Int × Int × Int × Unit →
 Option PV) : (Int ×
 Int ×
 Int ×
 List PV ×
 List PV ×
 List PV × List PV × List PV × List PV × List PV × List PV × List PV × List PV × Int × Int × Int × Unit) → (Int ×
 Int ×
 Int ×
 List PV ×
 List PV ×
 List PV × List PV × List PV × List PV × List PV × List PV × List PV × List PV × Int × Int × Int × Unit →
 Option PV) → Option PV := fun s17 rec18 =>
 (idxP s17.2.2.2.2.2.2.2.1 s17.2.1).bind fun p19 =>
 (asSl 5 (cell p19 4)).bind fun es20 =>
 if decide (s17.2.2.1 < (↑es20.length : Int)) = true then
 (idxP s17.2.2.2.2.2.2.2.1 s17.2.1).bind fun p21 =>
 (asSl 5 (cell p21 4)).bind fun es22 =>
 (idxP es22 s17.2.2.1).bind fun p23 =>
 (Ab.asInt .i64 (cell p23 0)).bind fun n24 =>
 if (n24 == s17.1) = true then some (PV.bool true)
 else
 rec18
 (s17.1, s17.2.1, IntKind.i64.wrap (s17.2.2.1 + 1), s17.2.2.2.1,
 s17.2.2.2.2.1, s17.2.2.2.2.2.1, s17.2.2.2.2.2.2.1,
 s17.2.2.2.2.2.2.2.1, s17.2.2.2.2.2.2.2.2.1,
 s17.2.2.2.2.2.2.2.2.2.1, s17.2.2.2.2.2.2.2.2.2.2.1,
 s17.2.2.2.2.2.2.2.2.2.2.2.1,
 s17.2.2.2.2.2.2.2.2.2.2.2.2.1,
 s17.2.2.2.2.2.2.2.2.2.2.2.2.2.1,
 s17.2.2.2.2.2.2.2.2.2.2.2.2.2.2.1,
 s17.2.2.2.2.2.2.2.2.2.2.2.2.2.2.2.1, ())
 else
 rec16
 (s17.1, IntKind.i64.wrap (s17.2.1 + 1), s17.2.2.2.1, s17.2.2.2.2.1,
 s17.2.2.2.2.2.1, s17.2.2.2.2.2.2.1, s17.2.2.2.2.2.2.2.1,
 s17.2.2.2.2.2.2.2.2.1, s17.2.2.2.2.2.2.2.2.2.1,
 s17.2.2.2.2.2.2.2.2.2.2.1, s17.2.2.2.2.2.2.2.2.2.2.2.1,
 s17.2.2.2.2.2.2.2.2.2.2.2.2.1,
 s17.2.2.2.2.2.2.2.2.2.2.2.2.2.1,
 s17.2.2.2.2.2.2.2.2.2.2.2.2.2.2.1,
 s17.2.2.2.2.2.2.2.2.2.2.2.2.2.2.2.1, ())
def ref24_stopUsed_L2 : (Int ×
 Int ×
 List PV ×
 List PV × List PV × List PV × List PV × List PV × List PV × List PV × List PV × List PV × Int × Int × Int × Unit) → (Int ×
 Int ×
 List PV ×
 List PV ×
 List PV × List PV × List PV × List PV × List PV × List PV × List PV × List PV × Int × Int × Int × Unit →
 Option PV) → Option PV := fun s25 rec26 =>
 if decide (s25.2.1 < (↑s25.2.2.2.2.2.2.2.2.2.2.1.length : Int)) = true then
 (idxP s25.2.2.2.2.2.2.2.2.2.2.1 s25.2.1).bind fun p27 =>
 (Ab.asInt .i64 (cell p27 0)).bind fun n28 =>
 (bif n28 == s25.1 then some true
 else
 (idxP s25.2.2.2.2.2.2.2.2.2.2.1 s25.2.1).bind fun p29 =>
 (Ab.asInt .i64 (cell p29 1)).bind fun n30 => some (n30 == s25.1)).bind
 fun r31 =>
 if r31 = true then some (PV.bool true)
 else
 rec26
 (s25.1, IntKind.i64.wrap (s25.2.1 + 1), s25.2.2.1, s25.2.2.2.1, s25.2.2.2.2.1,
 s25.2.2.2.2.2.1, s25.2.2.2.2.2.2.1, s25.2.2.2.2.2.2.2.1,
 s25.2.2.2.2.2.2.2.2.1, s25.2.2.2.2.2.2.2.2.2.1,
 s25.2.2.2.2.2.2.2.2.2.2.1, s25.2.2.2.2.2.2.2.2.2.2.2.1,
 s25.2.2.2.2.2.2.2.2.2.2.2.2.1,
 s25.2.2.2.2.2.2.2.2.2.2.2.2.2.1,
 s25.2.2.2.2.2.2.2.2.2.2.2.2.2.2.1, ())
else some (PV.bool false)
def ref24_stopUsed_L3 (L : Lps) : (Int ×
 Int ×
 List PV ×
 List PV × List PV × List PV × List PV × List PV × List PV × List PV × List PV × List PV × Int × Int × Int × Unit) → (Int ×
 Int ×
 List PV ×
 List PV ×
 List PV × List PV × List PV × List PV × List PV × List PV × List PV × List PV × Int × Int × Int × Unit →
 Option PV) → Option PV := fun s15 rec16 =>
 if decide (s15.2.1 < (↑s15.2.2.2.2.2.2.1.length : Int)) = true then
 L.run (ref24_stopUsed_L1 rec16)
 (s15.1, s15.2.1, 0, s15.2.2.1, s15.2.2.2.1, s15.2.2.2.2.1,
 s15.2.2.2.2.2.1, s15.2.2.2.2.2.2.1, s15.2.2.2.2.2.2.2.1,
 s15.2.2.2.2.2.2.2.2.1, s15.2.2.2.2.2.2.2.2.2.1,
 s15.2.2.2.2.2.2.2.2.2.2.1, s15.2.2.2.2.2.2.2.2.2.2.2.1,
 s15.2.2.2.2.2.2.2.2.2.2.2.2.1,
 s15.2.2.2.2.2.2.2.2.2.2.2.2.2.1,
 s15.2.2.2.2.2.2.2.2.2.2.2.2.2.2.1, ())
else
 L.run ref24_stopUsed_L2
 (s15.1, 0, s15.2.2.1, s15.2.2.2.1, s15.2.2.2.2.1, s15.2.2.2.2.2.1,
 s15.2.2.2.2.2.2.1, s15.2.2.2.2.2.2.2.1, s15.2.2.2.2.2.2.2.2.1,
 s15.2.2.2.2.2.2.2.2.2.1, s15.2.2.2.2.2.2.2.2.2.2.1,
 s15.2.2.2.2.2.2.2.2.2.2.2.1, s15.2.2.2.2.2.2.2.2.2.2.2.2.1,
 s15.2.2.2.2.2.2.2.2.2.2.2.2.2.1,
 s15.2.2.2.2.2.2.2.2.2.2.2.2.2.2.1, ())
def ref24_stopUsed (L : Lps) (p0 : PV) (p1 : PV) : Option PV :=
 (Ab.asAgg 13 p0).bind fun x0 =>
 (asSl 4 (cell p0 0)).bind fun es1 =>
 (asSl 3 (cell p0 1)).bind fun es2 =>
 (asSl 10 (cell p0 2)).bind fun es3 =>
 (asSl 3 (cell p0 3)).bind fun es4 =>
 (asSl 5 (cell p0 4)).bind fun es5 =>
 (asSl 4 (cell p0 5)).bind fun es6 =>
 (asSl 2 (cell p0 6)).bind fun es7 =>
 (asSl 3 (cell p0 7)).bind fun es8 =>
 (asSl 4 (cell p0 8)).bind fun es9 =>
 (asSl 6 (cell p0 9)).bind fun es10 =>
 (Ab.asInt .i64 (cell p0 10)).bind fun n11 =>
 (Ab.asInt .i64 (cell p0 11)).bind fun n12 =>
 (Ab.asInt .i64 (cell p0 12)).bind fun n13 =>
 (Ab.asInt .i64 p1).bind fun n14 =>
 L.run (ref24_stopUsed_L3 L)
 (n14, 0, es1, es2, es3, es4, es5, es6, es7, es8, es9, es10, n11, n12, n13, ())
def ref24_stopUsed_M : List PV → Option PV
  | [p0, p1] => ref24_stopUsed lpS p0 p1
  | _ => none
def ref24_Holds (L : Lps) (p0 : PV) (p1 : PV) : Option PV :=
 (Ab.asAgg 13 p0).bind fun x0 =>
 (asSl 4 (cell p0 0)).bind fun es1 =>
 (asSl 3 (cell p0 1)).bind fun es2 =>
 (asSl 10 (cell p0 2)).bind fun es3 =>
 (asSl 3 (cell p0 3)).bind fun es4 =>
 (asSl 5 (cell p0 4)).bind fun es5 =>
 (asSl 4 (cell p0 5)).bind fun es6 =>
 (asSl 2 (cell p0 6)).bind fun es7 =>
 (asSl 3 (cell p0 7)).bind fun es8 =>
 (asSl 4 (cell p0 8)).bind fun es9 =>
 (asSl 6 (cell p0 9)).bind fun es10 =>
 (Ab.asInt .i64 (cell p0 10)).bind fun n11 =>
 (Ab.asInt .i64 (cell p0 11)).bind fun n12 =>
 (Ab.asInt .i64 (cell p0 12)).bind fun n13 =>
 (Ab.asAgg 3 p1).bind fun x14 =>
 (Ab.asInt .i64 (cell p1 0)).bind fun n15 =>
 (Ab.asInt .i64 (cell p1 1)).bind fun n16 =>
 (Ab.asInt .i64 (cell p1 2)).bind fun n17 =>
 (bif decide (n16 < 0) then some true
 else
 (bif n15 != 5 then some (n17 != 0) else some false).bind fun r18 =>
 some r18).bind
 fun r19 =>
 if r19 = true then some (PV.bool false)
 else
 if (n15 == 1) = true then
 (bif decide (n16 < (↑es1.length : Int)) then
 (ref24_stopUsed_M
 [PV.agg
 [PV.rs 4 es1, PV.rs 3 es2, PV.rs 10 es3, PV.rs 3 es4,
 PV.rs 5 es5, PV.rs 4 es6, PV.rs 2 es7, PV.rs 3 es8,
 PV.rs 4 es9, PV.rs 6 es10, PV.int .i64 n11,
 PV.int .i64 n12, PV.int .i64 n13],
 PV.int .i64 n16]).bind
 fun r20 => (Ab.asBool r20).bind fun b21 => some !b21
 else some false).bind
 fun r22 => some (PV.bool r22)
 else
 if (n15 == 2) = true then
 (bif decide (n16 < (↑es2.length : Int)) then
 (ref24_routeUsed_M
 [PV.agg
 [PV.rs 4 es1, PV.rs 3 es2, PV.rs 10 es3, PV.rs 3 es4,
 PV.rs 5 es5, PV.rs 4 es6, PV.rs 2 es7, PV.rs 3 es8,
 PV.rs 4 es9, PV.rs 6 es10, PV.int .i64 n11,
 PV.int .i64 n12, PV.int .i64 n13],
 PV.int .i64 n16]).bind
 fun r23 => (Ab.asBool r23).bind fun b24 => some !b24
 else some false).bind
 fun r25 => some (PV.bool r25)
 else
 if (n15 == 3) = true then
 (bif decide (n16 < (↑es3.length : Int)) then
 (ref24_calendarUsed_M
 [PV.agg
 [PV.rs 4 es1, PV.rs 3 es2, PV.rs 10 es3, PV.rs 3 es4,
 PV.rs 5 es5, PV.rs 4 es6, PV.rs 2 es7, PV.rs 3 es8,
 PV.rs 4 es9, PV.rs 6 es10, PV.int .i64 n11,
 PV.int .i64 n12, PV.int .i64 n13],
 PV.int .i64 n16]).bind
 fun r26 => (Ab.asBool r26).bind fun b27 => some !b27
 else some false).bind
 fun r28 => some (PV.bool r28)
 else
 if (n15 == 4) = true then
 if decide (n16 ≥ (↑es5.length : Int)) = true then some (PV.bool false)
 else
 (idxP es5 n16).bind fun p29 =>
 (Ab.asInt .i64 (cell p29 2)).bind fun n30 =>
 (ref14_Next_M
 [PV.rs 10 es3, PV.rs 3 es4, PV.int .i64 n30,
 PV.int .i64 0]).bind
 fun r31 =>
 (asTup 2 r31).bind fun vs32 =>
 (Ab.asInt .i64 (vs32.getD 0 .bad)).bind fun n33 =>
 (Ab.asBool (vs32.getD 1 .bad)).bind fun b34 =>
 some (PV.bool !b34)
 else
 if (n15 == 5) = true then
 (bif decide (n16 < (↑es5.length : Int)) then some (decide (n17 ≥ 0))
 else some false).bind
 fun r35 =>
 (bif r35 then some (decide (n17 < (↑es5.length : Int)))
 else some false).bind
 fun r36 =>
 (bif r36 then
 (ref24_overtakes_M
 [PV.agg
 [PV.rs 4 es1, PV.rs 3 es2, PV.rs 10 es3,
 PV.rs 3 es4, PV.rs 5 es5, PV.rs 4 es6,
 PV.rs 2 es7, PV.rs 3 es8, PV.rs 4 es9,
 PV.rs 6 es10, PV.int .i64 n11,
 PV.int .i64 n12, PV.int .i64 n13],
 PV.int .i64 n16,
 PV.int .i64 n17]).bind
 fun r37 => (Ab.asBool r37).bind fun b38 => some b38
 else some false).bind
 fun r39 => some (PV.bool r39)
 else
 if (n15 == 6) = true then
 (bif decide (n16 < (↑es1.length : Int)) then
 (ref24_reached_M
 [PV.agg
 [PV.rs 4 es1, PV.rs 3 es2, PV.rs 10 es3,
 PV.rs 3 es4, PV.rs 5 es5, PV.rs 4 es6,
 PV.rs 2 es7, PV.rs 3 es8, PV.rs 4 es9,
 PV.rs 6 es10, PV.int .i64 n11,
 PV.int .i64 n12, PV.int .i64 n13],
 PV.int .i64 n16]).bind
 fun r40 => (Ab.asBool r40).bind fun b41 => some !b41
 else some false).bind
 fun r42 => some (PV.bool r42)
 else
 if (n15 == 7) = true then
 (bif decide (n16 < (↑es2.length : Int)) then
 (ref24_routeUsed_M
 [PV.agg
 [PV.rs 4 es1, PV.rs 3 es2, PV.rs 10 es3,
 PV.rs 3 es4, PV.rs 5 es5, PV.rs 4 es6,
 PV.rs 2 es7, PV.rs 3 es8, PV.rs 4 es9,
 PV.rs 6 es10, PV.int .i64 n11,
 PV.int .i64 n12, PV.int .i64 n13],
 PV.int .i64 n16]).bind
 fun r43 => (Ab.asBool r43).bind fun b44 => some b44
 else some false).bind
 fun r45 =>
 (bif r45 then
 (idxP es2 n16).bind fun p46 =>
 (Ab.asInt .i64 (cell p46 1)).bind fun n47 =>
 (ref24_paid_M
 [PV.agg
 [PV.rs 4 es1, PV.rs 3 es2, PV.rs 10 es3,
 PV.rs 3 es4, PV.rs 5 es5, PV.rs 4 es6,
 PV.rs 2 es7, PV.rs 3 es8, PV.rs 4 es9,
 PV.rs 6 es10, PV.int .i64 n11,
 PV.int .i64 n12,
 PV.int .i64 n13],
 PV.int .i64 n47]).bind
 fun r48 => (Ab.asBool r48).bind fun b49 => some !b49
 else some false).bind
 fun r50 => some (PV.bool r50)
 else some (PV.bool false)
def ref24_Holds_M : List PV → Option PV
  | [p0, p1] => ref24_Holds lpS p0 p1
  | _ => none
def ref13_Find_L1 : (List PV × Bytes × Int × Unit) → (List PV × Bytes × Int × Unit → Option PV) → Option PV := fun s2 rec3 =>
 if decide (s2.2.2.1 < (↑s2.1.length : Int)) = true then
 (idxP s2.1 s2.2.2.1).bind fun p4 =>
 (asStr (cell p4 0)).bind fun s5 =>
 if (s5 == s2.2.1) = true then some (PV.int .i64 s2.2.2.1)
 else rec3 (s2.1, s2.2.1, IntKind.i64.wrap (s2.2.2.1 + 1), ())
else some (PV.int .i64 (-1))
def ref13_Find (L : Lps) (p0 : PV) (p1 : PV) : Option PV :=
 (asSl 4 p0).bind fun es0 => (asStr p1).bind fun s1 => L.run ref13_Find_L1 (es0, s1, 0, ())
def ref13_Find_M : List PV → Option PV
  | [p0, p1] => ref13_Find lpS p0 p1
  | _ => none
def ref13_Identifier_L1 : (Bytes × Int × Unit) → (Bytes × Int × Unit → Option PV) → Option PV := fun s2 rec3 =>
 if decide (s2.2.1 < (↑(List.length s2.1) : Int)) = true then
 (idxB s2.1 s2.2.1).bind fun b4 =>
 (bif decide ((↑b4.toNat : Int) ≥ 65) then some (decide ((↑b4.toNat : Int) ≤ 90)) else some false).bind fun r5 =>
 (bif r5 then some true
 else
 (bif decide ((↑b4.toNat : Int) ≥ 97) then some (decide ((↑b4.toNat : Int) ≤ 122)) else some false).bind
 fun r6 => some r6).bind
 fun r7 =>
 (bif r7 then some true
 else
 (bif decide ((↑b4.toNat : Int) ≥ 48) then some (decide ((↑b4.toNat : Int) ≤ 57)) else some false).bind
 fun r8 => some r8).bind
 fun r9 =>
 (bif r9 then some true else some ((↑b4.toNat : Int) == 45)).bind fun r10 =>
 (bif r10 then some true else some ((↑b4.toNat : Int) == 95)).bind fun r11 =>
 (bif r11 then some true else some ((↑b4.toNat : Int) == 46)).bind fun r12 =>
 if (!r12) = true then some (PV.bool false) else rec3 (s2.1, IntKind.i64.wrap (s2.2.1 + 1), ())
else some (PV.bool true)
def ref13_Identifier (L : Lps) (p0 : PV) : Option PV :=
 (asStr p0).bind fun s0 =>
 (bif decide ((↑(List.length s0) : Int) < 1) then some true else some (decide ((↑(List.length s0) : Int) > 32))).bind
 fun r1 => if r1 = true then some (PV.bool false) else L.run ref13_Identifier_L1 (s0, 0, ())
def ref13_Identifier_M : List PV → Option PV
  | [p0] => ref13_Identifier lpS p0
  | _ => none
def ref13_Check_L1 : (List PV × Int × Unit) → (List PV × Int × Unit → Option PV) → Option PV := fun s1 rec2 =>
 if decide (s1.2.1 < (↑s1.1.length : Int)) = true then
 (idxP s1.1 s1.2.1).bind fun p3 =>
 (asStr (cell p3 0)).bind fun s4 =>
 (ref13_Identifier_M [PV.str s4]).bind fun r5 =>
 (Ab.asBool r5).bind fun b6 =>
 if (!b6) = true then some (PV.tup [PV.int .i64 s1.2.1, PV.int .i64 12])
 else
 (idxP s1.1 s1.2.1).bind fun p7 =>
 (asStr (cell p7 0)).bind fun s8 =>
 (ref13_Find_M [PV.rs 4 s1.1, PV.str s8]).bind fun r9 =>
 (Ab.asInt .i64 r9).bind fun n10 =>
 if decide (n10 < s1.2.1) = true then
 some (PV.tup [PV.int .i64 s1.2.1, PV.int .i64 6])
 else
 (idxP s1.1 s1.2.1).bind fun p11 =>
 (Ab.asInt .i64 (cell p11 1)).bind fun n12 =>
 (bif decide (n12 < 0) then some true
 else
 (idxP s1.1 s1.2.1).bind fun p13 =>
 (Ab.asInt .i64 (cell p13 1)).bind fun n14 => some (decide (n14 ≥ 16))).bind
 fun r15 =>
 (bif r15 then some true
 else
 (idxP s1.1 s1.2.1).bind fun p16 =>
 (Ab.asInt .i64 (cell p16 3)).bind fun n17 => some (decide (n17 < 0))).bind
 fun r18 =>
 (bif r18 then some true
 else
 (idxP s1.1 s1.2.1).bind fun p19 =>
 (Ab.asInt .i64 (cell p19 3)).bind fun n20 =>
 some (decide (n20 > 3600))).bind
 fun r21 =>
 if r21 = true then some (PV.tup [PV.int .i64 s1.2.1, PV.int .i64 2])
 else rec2 (s1.1, IntKind.i64.wrap (s1.2.1 + 1), ())
else some (PV.tup [PV.int .i64 0, PV.int .i64 0])
def ref13_Check (L : Lps) (p0 : PV) : Option PV :=
 (asSl 4 p0).bind fun es0 =>
 if decide ((↑es0.length : Int) > 64) = true then some (PV.tup [PV.int .i64 0, PV.int .i64 5])
 else L.run ref13_Check_L1 (es0, 0, ())
def ref13_Check_M : List PV → Option PV
  | [p0] => ref13_Check lpS p0
  | _ => none
def ref05_Valid_L1 : (Bytes × Int × Unit) → (Bytes × Int × Unit → Option PV) → Option PV := fun s2 rec3 =>
 if decide (s2.2.1 < (↑(List.length s2.1) : Int)) = true then
 (idxB s2.1 s2.2.1).bind fun b4 =>
 (bif decide ((↑b4.toNat : Int) ≥ 65) then some (decide ((↑b4.toNat : Int) ≤ 90)) else some false).bind fun r5 =>
 (bif r5 then some true
 else
 (bif decide ((↑b4.toNat : Int) ≥ 97) then some (decide ((↑b4.toNat : Int) ≤ 122)) else some false).bind
 fun r6 => some r6).bind
 fun r7 =>
 (bif !r7 then
 (bif decide ((↑b4.toNat : Int) ≥ 48) then some (decide ((↑b4.toNat : Int) ≤ 57)) else some false).bind
 fun r8 => some !r8
 else some false).bind
 fun r9 =>
 (bif r9 then some ((↑b4.toNat : Int) != 45) else some false).bind fun r10 =>
 (bif r10 then some ((↑b4.toNat : Int) != 95) else some false).bind fun r11 =>
 (bif r11 then some ((↑b4.toNat : Int) != 46) else some false).bind fun r12 =>
 if r12 = true then some (PV.bool false) else rec3 (s2.1, IntKind.i64.wrap (s2.2.1 + 1), ())
else some (PV.bool true)
def ref05_Valid (L : Lps) (p0 : PV) : Option PV :=
 (asStr p0).bind fun s0 =>
 (bif (↑(List.length s0) : Int) == 0 then some true else some (decide ((↑(List.length s0) : Int) > 32))).bind fun r1 =>
 if r1 = true then some (PV.bool false) else L.run ref05_Valid_L1 (s0, 0, ())
def ref05_Valid_M : List PV → Option PV
  | [p0] => ref05_Valid lpS p0
  | _ => none
def ref14_Check_L1 (rec2 : List PV × Int × Unit → Option PV) : (List PV × Int × Int × Unit) → (List PV × Int × Int × Unit → Option PV) → Option PV := fun s7 rec8 =>
 if decide (s7.2.2.1 < s7.2.1) = true then
 (idxP s7.1 s7.2.2.1).bind fun p9 =>
 (asStr (cell p9 0)).bind fun s10 =>
 (idxP s7.1 s7.2.1).bind fun p11 =>
 (asStr (cell p11 0)).bind fun s12 =>
 if (s10 == s12) = true then some (PV.tup [PV.int .i64 s7.2.1, PV.int .i64 6])
 else rec8 (s7.1, s7.2.1, IntKind.i64.wrap (s7.2.2.1 + 1), ())
else
 (idxP s7.1 s7.2.1).bind fun p13 =>
 (Ab.asInt .i64 (cell p13 8)).bind fun n14 =>
 (ref02_Valid_M [PV.int .i64 n14]).bind fun r15 =>
 (Ab.asBool r15).bind fun b16 =>
 (bif !b16 then some true
 else
 (idxP s7.1 s7.2.1).bind fun p17 =>
 (Ab.asInt .i64 (cell p17 9)).bind fun n18 =>
 (ref02_Valid_M [PV.int .i64 n18]).bind fun r19 =>
 (Ab.asBool r19).bind fun b20 => some !b20).bind
 fun r21 =>
 (bif r21 then some true
 else
 (idxP s7.1 s7.2.1).bind fun p22 =>
 (Ab.asInt .i64 (cell p22 8)).bind fun n23 =>
 (idxP s7.1 s7.2.1).bind fun p24 =>
 (Ab.asInt .i64 (cell p24 9)).bind fun n25 => some (decide (n23 > n25))).bind
 fun r26 =>
 if r26 = true then some (PV.tup [PV.int .i64 s7.2.1, PV.int .i64 11])
 else rec2 (s7.1, IntKind.i64.wrap (s7.2.1 + 1), ())
def ref14_Check_L2 (L : Lps) : (List PV × Int × Unit) → (List PV × Int × Unit → Option PV) → Option PV := fun s1 rec2 =>
 if decide (s1.2.1 < (↑s1.1.length : Int)) = true then
 (idxP s1.1 s1.2.1).bind fun p3 =>
 (asStr (cell p3 0)).bind fun s4 =>
 (ref05_Valid_M [PV.str s4]).bind fun r5 =>
 (Ab.asBool r5).bind fun b6 =>
 if (!b6) = true then some (PV.tup [PV.int .i64 s1.2.1, PV.int .i64 12])
 else L.run (ref14_Check_L1 rec2) (s1.1, s1.2.1, 0, ())
else some (PV.tup [PV.int .i64 0, PV.int .i64 0])
def ref14_Check (L : Lps) (p0 : PV) : Option PV :=
 (asSl 10 p0).bind fun es0 =>
 if decide ((↑es0.length : Int) > 64) = true then some (PV.tup [PV.int .i64 0, PV.int .i64 5])
 else L.run (ref14_Check_L2 L) (es0, 0, ())
def ref14_Check_M : List PV → Option PV
  | [p0] => ref14_Check lpS p0
  | _ => none
def ref14_CheckExceptions_L1 (rec3 : List PV × Int × Int × Unit → Option PV) : (List PV × Int × Int × Int × Unit) → (List PV × Int × Int × Int × Unit → Option PV) → Option PV := fun s13 rec14 =>
 if decide (s13.2.2.2.1 < s13.2.2.1) = true then
 (idxP s13.1 s13.2.2.2.1).bind fun p15 =>
 (Ab.asInt .i64 (cell p15 0)).bind fun n16 =>
 (idxP s13.1 s13.2.2.1).bind fun p17 =>
 (Ab.asInt .i64 (cell p17 0)).bind fun n18 =>
 (bif n16 == n18 then
 (idxP s13.1 s13.2.2.2.1).bind fun p19 =>
 (Ab.asInt .i64 (cell p19 1)).bind fun n20 =>
 (idxP s13.1 s13.2.2.1).bind fun p21 =>
 (Ab.asInt .i64 (cell p21 1)).bind fun n22 => some (n20 == n22)
 else some false).bind
 fun r23 =>
 if r23 = true then some (PV.tup [PV.int .i64 s13.2.2.1, PV.int .i64 6])
 else rec14 (s13.1, s13.2.1, s13.2.2.1, IntKind.i64.wrap (s13.2.2.2.1 + 1), ())
else rec3 (s13.1, s13.2.1, IntKind.i64.wrap (s13.2.2.1 + 1), ())
def ref14_CheckExceptions_L2 (L : Lps) : (List PV × Int × Int × Unit) → (List PV × Int × Int × Unit → Option PV) → Option PV := fun s2 rec3 =>
 if decide (s2.2.2.1 < (↑s2.1.length : Int)) = true then
 (idxP s2.1 s2.2.2.1).bind fun p4 =>
 (Ab.asInt .i64 (cell p4 0)).bind fun n5 =>
 (bif decide (n5 < 0) then some true
 else
 (idxP s2.1 s2.2.2.1).bind fun p6 =>
 (Ab.asInt .i64 (cell p6 0)).bind fun n7 => some (decide (n7 ≥ s2.2.1))).bind
 fun r8 =>
 if r8 = true then some (PV.tup [PV.int .i64 s2.2.2.1, PV.int .i64 9])
 else
 (idxP s2.1 s2.2.2.1).bind fun p9 =>
 (Ab.asInt .i64 (cell p9 1)).bind fun n10 =>
 (ref02_Valid_M [PV.int .i64 n10]).bind fun r11 =>
 (Ab.asBool r11).bind fun b12 =>
 if (!b12) = true then some (PV.tup [PV.int .i64 s2.2.2.1, PV.int .i64 11])
 else L.run (ref14_CheckExceptions_L1 rec3) (s2.1, s2.2.1, s2.2.2.1, 0, ())
else some (PV.tup [PV.int .i64 0, PV.int .i64 0])
def ref14_CheckExceptions (L : Lps) (p0 : PV) (p1 : PV) : Option PV :=
 (asSl 3 p0).bind fun es0 =>
 (Ab.asInt .i64 p1).bind fun n1 =>
 if decide ((↑es0.length : Int) > 256) = true then some (PV.tup [PV.int .i64 0, PV.int .i64 5])
 else L.run (ref14_CheckExceptions_L2 L) (es0, n1, 0, ())
def ref14_CheckExceptions_M : List PV → Option PV
  | [p0, p1] => ref14_CheckExceptions lpS p0 p1
  | _ => none
def ref15_Name_L1 : (Bytes × Int × Unit) → (Bytes × Int × Unit → Option PV) → Option PV := fun s2 rec3 =>
 if decide (s2.2.1 < (↑(List.length s2.1) : Int)) = true then
 (idxB s2.1 s2.2.1).bind fun b4 =>
 (bif decide ((↑b4.toNat : Int) ≥ 97) then some (decide ((↑b4.toNat : Int) ≤ 122)) else some false).bind fun r5 =>
 (bif r5 then some true
 else
 (bif decide ((↑b4.toNat : Int) ≥ 65) then some (decide ((↑b4.toNat : Int) ≤ 90)) else some false).bind
 fun r6 => some r6).bind
 fun r7 =>
 (bif r7 then some true
 else
 (bif decide ((↑b4.toNat : Int) ≥ 48) then some (decide ((↑b4.toNat : Int) ≤ 57)) else some false).bind
 fun r8 => some r8).bind
 fun r9 =>
 (bif r9 then some true else some ((↑b4.toNat : Int) == 45)).bind fun r10 =>
 (bif r10 then some true else some ((↑b4.toNat : Int) == 95)).bind fun r11 =>
 (bif r11 then some true else some ((↑b4.toNat : Int) == 46)).bind fun r12 =>
 if (!r12) = true then some (PV.bool false) else rec3 (s2.1, IntKind.i64.wrap (s2.2.1 + 1), ())
else some (PV.bool true)
def ref15_Name (L : Lps) (p0 : PV) : Option PV :=
 (asStr p0).bind fun s0 =>
 (bif decide ((↑(List.length s0) : Int) < 1) then some true else some (decide ((↑(List.length s0) : Int) > 32))).bind
 fun r1 => if r1 = true then some (PV.bool false) else L.run ref15_Name_L1 (s0, 0, ())
def ref15_Name_M : List PV → Option PV
  | [p0] => ref15_Name lpS p0
  | _ => none
def ref15_mode (L : Lps) (p0 : PV) : Option PV :=
 (Ab.asInt .i64 p0).bind fun n0 =>
 (bif decide (n0 ≥ 0) then some (decide (n0 < 8)) else some false).bind fun r1 => some (PV.bool r1)
def ref15_mode_M : List PV → Option PV
  | [p0] => ref15_mode lpS p0
  | _ => none
def ref15_Check_L1 (rec2 : List PV × Int × Unit → Option PV) : (List PV × Int × Int × Unit) → (List PV × Int × Int × Unit → Option PV) → Option PV := fun s7 rec8 =>
 if decide (s7.2.2.1 < s7.2.1) = true then
 (idxP s7.1 s7.2.2.1).bind fun p9 =>
 (asStr (cell p9 0)).bind fun s10 =>
 (idxP s7.1 s7.2.1).bind fun p11 =>
 (asStr (cell p11 0)).bind fun s12 =>
 if (s10 == s12) = true then some (PV.tup [PV.int .i64 s7.2.1, PV.int .i64 6])
 else rec8 (s7.1, s7.2.1, IntKind.i64.wrap (s7.2.2.1 + 1), ())
else
 (idxP s7.1 s7.2.1).bind fun p13 =>
 (Ab.asInt .i64 (cell p13 1)).bind fun n14 =>
 (ref15_mode_M [PV.int .i64 n14]).bind fun r15 =>
 (Ab.asBool r15).bind fun b16 =>
 if (!b16) = true then some (PV.tup [PV.int .i64 s7.2.1, PV.int .i64 2])
 else rec2 (s7.1, IntKind.i64.wrap (s7.2.1 + 1), ())
def ref15_Check_L2 (L : Lps) : (List PV × Int × Unit) → (List PV × Int × Unit → Option PV) → Option PV := fun s1 rec2 =>
 if decide (s1.2.1 < (↑s1.1.length : Int)) = true then
 (idxP s1.1 s1.2.1).bind fun p3 =>
 (asStr (cell p3 0)).bind fun s4 =>
 (ref15_Name_M [PV.str s4]).bind fun r5 =>
 (Ab.asBool r5).bind fun b6 =>
 if (!b6) = true then some (PV.tup [PV.int .i64 s1.2.1, PV.int .i64 12])
 else L.run (ref15_Check_L1 rec2) (s1.1, s1.2.1, 0, ())
else some (PV.tup [PV.int .i64 0, PV.int .i64 0])
def ref15_Check (L : Lps) (p0 : PV) : Option PV :=
 (asSl 3 p0).bind fun es0 =>
 if decide ((↑es0.length : Int) > 64) = true then some (PV.tup [PV.int .i64 0, PV.int .i64 5])
 else L.run (ref15_Check_L2 L) (es0, 0, ())
def ref15_Check_M : List PV → Option PV
  | [p0] => ref15_Check lpS p0
  | _ => none
def ref17_Find_L1 : (List PV × Bytes × Int × Unit) → (List PV × Bytes × Int × Unit → Option PV) → Option PV := fun s2 rec3 =>
 if decide (s2.2.2.1 < (↑s2.1.length : Int)) = true then
 (idxP s2.1 s2.2.2.1).bind fun p4 =>
 (asStr (cell p4 0)).bind fun s5 =>
 if (s5 == s2.2.1) = true then some (PV.int .i64 s2.2.2.1)
 else rec3 (s2.1, s2.2.1, IntKind.i64.wrap (s2.2.2.1 + 1), ())
else some (PV.int .i64 (-1))
def ref17_Find (L : Lps) (p0 : PV) (p1 : PV) : Option PV :=
 (asSl 5 p0).bind fun es0 => (asStr p1).bind fun s1 => L.run ref17_Find_L1 (es0, s1, 0, ())
def ref17_Find_M : List PV → Option PV
  | [p0, p1] => ref17_Find lpS p0 p1
  | _ => none
def ref17_calls_L1 : (List PV × Int × Int × Unit) → (List PV × Int × Int × Unit → Option PV) → Option PV := fun s3 rec4 =>
 if decide (s3.2.2.1 < (↑s3.1.length : Int)) = true then
 (idxP s3.1 s3.2.2.1).bind fun p5 =>
 (Ab.asInt .i64 (cell p5 0)).bind fun n6 =>
 (bif decide (n6 < 0) then some true
 else
 (idxP s3.1 s3.2.2.1).bind fun p7 =>
 (Ab.asInt .i64 (cell p7 0)).bind fun n8 => some (decide (n8 ≥ s3.2.1))).bind
 fun r9 =>
 if r9 = true then some (PV.int .i64 9)
 else
 (bif decide (s3.2.2.1 > 0) then
 (idxP s3.1 s3.2.2.1).bind fun p10 =>
 (Ab.asInt .i64 (cell p10 0)).bind fun n11 =>
 (idxP s3.1 (IntKind.i64.wrap (s3.2.2.1 - 1))).bind fun p12 =>
 (Ab.asInt .i64 (cell p12 0)).bind fun n13 => some (n11 == n13)
 else some false).bind
 fun r14 =>
 if r14 = true then some (PV.int .i64 13)
 else
 (idxP s3.1 s3.2.2.1).bind fun p15 =>
 (Ab.asInt .i64 (cell p15 1)).bind fun n16 =>
 (bif decide (n16 < 0) then some true
 else
 (idxP s3.1 s3.2.2.1).bind fun p17 =>
 (Ab.asInt .i64 (cell p17 1)).bind fun n18 =>
 (idxP s3.1 s3.2.2.1).bind fun p19 =>
 (Ab.asInt .i64 (cell p19 2)).bind fun n20 => some (decide (n18 > n20))).bind
 fun r21 =>
 (bif r21 then some true
 else
 (idxP s3.1 s3.2.2.1).bind fun p22 =>
 (Ab.asInt .i64 (cell p22 2)).bind fun n23 => some (decide (n23 > 172800))).bind
 fun r24 =>
 (bif r24 then some true
 else
 (bif decide (s3.2.2.1 > 0) then
 (idxP s3.1 s3.2.2.1).bind fun p25 =>
 (Ab.asInt .i64 (cell p25 1)).bind fun n26 =>
 (idxP s3.1 (IntKind.i64.wrap (s3.2.2.1 - 1))).bind fun p27 =>
 (Ab.asInt .i64 (cell p27 2)).bind fun n28 => some (decide (n26 < n28))
 else some false).bind
 fun r29 => some r29).bind
 fun r30 =>
 if r30 = true then some (PV.int .i64 10)
 else rec4 (s3.1, s3.2.1, IntKind.i64.wrap (s3.2.2.1 + 1), ())
else some (PV.int .i64 0)
def ref17_calls (L : Lps) (p0 : PV) (p1 : PV) : Option PV :=
 (asSl 5 p0).bind fun es0 =>
 (Ab.asInt .i64 p1).bind fun n1 =>
 (bif decide ((↑es0.length : Int) < 2) then some true else some (decide ((↑es0.length : Int) > 32))).bind fun r2 =>
 if r2 = true then some (PV.int .i64 5) else L.run ref17_calls_L1 (es0, n1, 0, ())
def ref17_calls_M : List PV → Option PV
  | [p0, p1] => ref17_calls lpS p0 p1
  | _ => none
def ref17_one (L : Lps) (p0 : PV) (p1 : PV) (p2 : PV) (p3 : PV) (p4 : PV) : Option PV :=
 (asSl 5 p0).bind fun es0 =>
 (Ab.asInt .i64 p1).bind fun n1 =>
 (Ab.asInt .i64 p2).bind fun n2 =>
 (Ab.asInt .i64 p3).bind fun n3 =>
 (Ab.asInt .i64 p4).bind fun n4 =>
 (idxP es0 n1).bind fun p5 =>
 (asStr (cell p5 0)).bind fun s6 =>
 (ref05_Valid_M [PV.str s6]).bind fun r7 =>
 (Ab.asBool r7).bind fun b8 =>
 if (!b8) = true then some (PV.int .i64 12)
 else
 if (0 : Int) ≤ 0 ∧ 0 ≤ n1 ∧ n1 ≤ (↑es0.length : Int) ∧ 5 = 5 ∧ 5 ≠ 0 then
 (asStr (cell p5 0)).bind fun s9 =>
 (ref17_Find_M [PV.rs 5 (List.drop (Int.toNat 0) (List.take n1.toNat es0)), PV.str s9]).bind
 fun r10 =>
 (Ab.asInt .i64 r10).bind fun n11 =>
 if decide (n11 ≥ 0) = true then some (PV.int .i64 6)
 else
 (Ab.asInt .i64 (cell p5 1)).bind fun n12 =>
 (bif decide (n12 < 0) then some true
 else
 (Ab.asInt .i64 (cell p5 1)).bind fun n13 => some (decide (n13 ≥ n3))).bind
 fun r14 =>
 (bif r14 then some true
 else
 (Ab.asInt .i64 (cell p5 2)).bind fun n15 => some (decide (n15 < 0))).bind
 fun r16 =>
 (bif r16 then some true
 else
 (Ab.asInt .i64 (cell p5 2)).bind fun n17 =>
 some (decide (n17 ≥ n4))).bind
 fun r18 =>
 if r18 = true then some (PV.int .i64 9)
 else
 (asSl 5 (cell p5 4)).bind fun es19 =>
 (ref17_calls_M [PV.rs 5 es19, PV.int .i64 n2]).bind fun r20 =>
 (Ab.asInt .i64 r20).bind fun n21 => some (PV.int .i64 n21)
 else none
def ref17_one_M : List PV → Option PV
  | [p0, p1, p2, p3, p4] => ref17_one lpS p0 p1 p2 p3 p4
  | _ => none
def ref17_Check_L1 : (List PV × Int × Int × Int × Int × Unit) → (List PV × Int × Int × Int × Int × Unit → Option PV) → Option PV := fun s4 rec5 =>
 if decide (s4.2.2.2.2.1 < (↑s4.1.length : Int)) = true then
 (ref17_one_M
 [PV.rs 5 s4.1, PV.int .i64 s4.2.2.2.2.1, PV.int .i64 s4.2.1,
 PV.int .i64 s4.2.2.1, PV.int .i64 s4.2.2.2.1]).bind
 fun r6 =>
 (Ab.asInt .i64 r6).bind fun n7 =>
 if (n7 != 0) = true then some (PV.tup [PV.int .i64 s4.2.2.2.2.1, PV.int .i64 n7])
 else
 rec5 (s4.1, s4.2.1, s4.2.2.1, s4.2.2.2.1, IntKind.i64.wrap (s4.2.2.2.2.1 + 1), ())
else some (PV.tup [PV.int .i64 0, PV.int .i64 0])
def ref17_Check (L : Lps) (p0 : PV) (p1 : PV) (p2 : PV) (p3 : PV) : Option PV :=
 (asSl 5 p0).bind fun es0 =>
 (Ab.asInt .i64 p1).bind fun n1 =>
 (Ab.asInt .i64 p2).bind fun n2 =>
 (Ab.asInt .i64 p3).bind fun n3 =>
 if decide ((↑es0.length : Int) > 256) = true then some (PV.tup [PV.int .i64 0, PV.int .i64 5])
 else L.run ref17_Check_L1 (es0, n1, n2, n3, 0, ())
def ref17_Check_M : List PV → Option PV
  | [p0, p1, p2, p3] => ref17_Check lpS p0 p1 p2 p3
  | _ => none
def ref18_Shift (L : Lps) (p0 : PV) (p1 : PV) (p2 : PV) : Option PV :=
 (Ab.asInt .i64 p0).bind fun n0 =>
 (Ab.asInt .i64 p1).bind fun n1 =>
 (Ab.asInt .i64 p2).bind fun n2 =>
 (bif decide (n1 < 0) then some true else some (decide (n1 > 172800))).bind fun r3 =>
 if r3 = true then some (PV.tup [PV.int .i64 0, PV.bool false])
 else
 if decide (n0 ≥ n2) = true then
 if decide (IntKind.u64.wrap (IntKind.u64.wrap n0 - IntKind.u64.wrap n2) > 172800) = true then
 some (PV.tup [PV.int .i64 0, PV.bool false])
 else
 (bif decide (IntKind.i64.wrap (n1 + IntKind.i64.wrap (n0 - n2)) ≥ 0) then
 some (decide (IntKind.i64.wrap (n1 + IntKind.i64.wrap (n0 - n2)) ≤ 172800))
 else some false).bind
 fun r4 =>
 some (PV.tup [PV.int .i64 (IntKind.i64.wrap (n1 + IntKind.i64.wrap (n0 - n2))), PV.bool r4])
 else
 if decide (IntKind.u64.wrap (IntKind.u64.wrap n2 - IntKind.u64.wrap n0) > 172800) = true then
 some (PV.tup [PV.int .i64 0, PV.bool false])
 else
 (bif decide (IntKind.i64.wrap (n1 + IntKind.i64.wrap (n0 - n2)) ≥ 0) then
 some (decide (IntKind.i64.wrap (n1 + IntKind.i64.wrap (n0 - n2)) ≤ 172800))
 else some false).bind
 fun r5 =>
 some (PV.tup [PV.int .i64 (IntKind.i64.wrap (n1 + IntKind.i64.wrap (n0 - n2))), PV.bool r5])
def ref18_Shift_M : List PV → Option PV
  | [p0, p1, p2] => ref18_Shift lpS p0 p1 p2
  | _ => none
def ref18_Calls_L1 (L : Lps) : (Int × Int × Int × Bytes × Int × Int × Bool × List PV × List PV × Unit) → (Int × Int × Int × Bytes × Int × Int × Bool × List PV × List PV × Unit → Option PV) → Option PV := fun s9 rec10 =>
 if decide (s9.2.2.1 < (↑s9.2.2.2.2.2.2.2.1.length : Int)) = true then
 (idxP s9.2.2.2.2.2.2.2.1 s9.2.2.1).bind fun p11 =>
 (Ab.asInt .i64 (cell p11 1)).bind fun n12 =>
 (ref18_Shift_M [PV.int .i64 n12, PV.int .i64 s9.1, PV.int .i64 s9.2.1]).bind fun r13 =>
 (asTup 2 r13).bind fun vs14 =>
 (Ab.asInt .i64 (vs14.getD 0 .bad)).bind fun n15 =>
 (Ab.asBool (vs14.getD 1 .bad)).bind fun b16 =>
 (Ab.asInt .i64 (cell p11 2)).bind fun n17 =>
 (ref18_Shift_M [PV.int .i64 n17, PV.int .i64 s9.1, PV.int .i64 s9.2.1]).bind
 fun r18 =>
 (asTup 2 r18).bind fun vs19 =>
 (Ab.asInt .i64 (vs19.getD 0 .bad)).bind fun n20 =>
 (Ab.asBool (vs19.getD 1 .bad)).bind fun b21 =>
 (bif !b16 then some true else some !b21).bind fun r22 =>
 if r22 = true then some (PV.tup [PV.rs 5 [], PV.int .i64 10])
 else
 (Ab.asInt .i64 (cell p11 0)).bind fun n23 =>
 (Ab.asBool (cell p11 3)).bind fun b24 =>
 (Ab.asBool (cell p11 4)).bind fun b25 =>
 if
 (s9.2.2.2.2.2.2.2.2.1 ++
 [PV.agg
 [PV.int .i64 n23, PV.int .i64 n15,
 PV.int .i64 n20, PV.bool b24, PV.bool b25]]).length *
 32 ≤
 roomBound ∧
 0 < 32 then
 rec10
 (s9.1, s9.2.1, IntKind.i64.wrap (s9.2.2.1 + 1), s9.2.2.2.1,
 s9.2.2.2.2.1, s9.2.2.2.2.2.1,
 s9.2.2.2.2.2.2.1, s9.2.2.2.2.2.2.2.1,
 s9.2.2.2.2.2.2.2.2.1 ++
 [PV.agg
 [PV.int .i64 n23, PV.int .i64 n15, PV.int .i64 n20,
 PV.bool b24, PV.bool b25]],
 ())
 else none
else some (PV.tup [PV.rs 5 s9.2.2.2.2.2.2.2.2.1, PV.int .i64 0])
def ref18_Calls (L : Lps) (p0 : PV) (p1 : PV) : Option PV :=
 (Ab.asAgg 5 p0).bind fun x0 =>
 (asStr (cell p0 0)).bind fun s1 =>
 (Ab.asInt .i64 (cell p0 1)).bind fun n2 =>
 (Ab.asInt .i64 (cell p0 2)).bind fun n3 =>
 (Ab.asBool (cell p0 3)).bind fun b4 =>
 (asSl 5 (cell p0 4)).bind fun es5 =>
 (Ab.asInt .i64 p1).bind fun n6 =>
 if ((↑es5.length : Int) == 0) = true then some (PV.tup [PV.rs 5 [], PV.int .i64 16])
 else
 (idxP es5 0).bind fun p7 =>
 (Ab.asInt .i64 (cell p7 2)).bind fun n8 =>
 L.run (ref18_Calls_L1 L) (n6, n8, 0, s1, n2, n3, b4, es5, [], ())
def ref18_Calls_M : List PV → Option PV
  | [p0, p1] => ref18_Calls lpS p0 p1
  | _ => none
def ref18_Starts_L1 (L : Lps) : (Int × Int × Int × Int × Int × List PV × Unit) → (Int × Int × Int × Int × Int × List PV × Unit → Option PV) → Option PV := fun s7 rec8 =>
 if decide (s7.1 < s7.2.2.2.1) = true then
 if (s7.2.2.2.2.2.1 ++ [PV.int .i64 s7.1]).length * 8 ≤ roomBound ∧ 0 < 8 then
 rec8
 (IntKind.i64.wrap (s7.1 + s7.2.2.2.2.1), s7.2.1, s7.2.2.1, s7.2.2.2.1,
 s7.2.2.2.2.1, s7.2.2.2.2.2.1 ++ [PV.int .i64 s7.1], ())
 else none
else some (PV.rs 1 s7.2.2.2.2.2.1)
def ref18_Starts (L : Lps) (p0 : PV) : Option PV :=
 (Ab.asAgg 4 p0).bind fun x0 =>
 (Ab.asInt .i64 (cell p0 0)).bind fun n1 =>
 (Ab.asInt .i64 (cell p0 1)).bind fun n2 =>
 (Ab.asInt .i64 (cell p0 2)).bind fun n3 =>
 (Ab.asInt .i64 (cell p0 3)).bind fun n4 =>
 (ref18_Sound_M
 [PV.agg
 [PV.int .i64 n1, PV.int .i64 n2, PV.int .i64 n3, PV.int .i64 n4]]).bind
 fun r5 =>
 (Ab.asBool r5).bind fun b6 =>
 if (!b6) = true then some (PV.rs 1 []) else L.run (ref18_Starts_L1 L) (n2, n1, n2, n3, n4, [], ())
def ref18_Starts_M : List PV → Option PV
  | [p0] => ref18_Starts lpS p0
  | _ => none
def ref18_fits (L : Lps) (p0 : PV) (p1 : PV) : Option PV :=
 (Ab.asAgg 5 p0).bind fun x0 =>
 (asStr (cell p0 0)).bind fun s1 =>
 (Ab.asInt .i64 (cell p0 1)).bind fun n2 =>
 (Ab.asInt .i64 (cell p0 2)).bind fun n3 =>
 (Ab.asBool (cell p0 3)).bind fun b4 =>
 (asSl 5 (cell p0 4)).bind fun es5 =>
 (Ab.asAgg 4 p1).bind fun x6 =>
 (Ab.asInt .i64 (cell p1 0)).bind fun n7 =>
 (Ab.asInt .i64 (cell p1 1)).bind fun n8 =>
 (Ab.asInt .i64 (cell p1 2)).bind fun n9 =>
 (Ab.asInt .i64 (cell p1 3)).bind fun n10 =>
 (ref18_Starts_M
 [PV.agg
 [PV.int .i64 n7, PV.int .i64 n8, PV.int .i64 n9,
 PV.int .i64 n10]]).bind
 fun r11 =>
 (asSl 1 r11).bind fun es12 =>
 (idxP es12 0).bind fun p13 =>
 (Ab.asInt .i64 (cell p13 0)).bind fun n14 =>
 (ref18_Calls_M
 [PV.agg
 [PV.str s1, PV.int .i64 n2, PV.int .i64 n3, PV.bool b4,
 PV.rs 5 es5],
 PV.int .i64 n14]).bind
 fun r15 =>
 (asTup 2 r15).bind fun vs16 =>
 (asSl 5 (vs16.getD 0 .bad)).bind fun es17 =>
 (Ab.asInt .i64 (vs16.getD 1 .bad)).bind fun n18 =>
 (idxP es12 (IntKind.i64.wrap ((↑es12.length : Int) - 1))).bind fun p19 =>
 (Ab.asInt .i64 (cell p19 0)).bind fun n20 =>
 (ref18_Calls_M
 [PV.agg
 [PV.str s1, PV.int .i64 n2, PV.int .i64 n3,
 PV.bool b4, PV.rs 5 es5],
 PV.int .i64 n20]).bind
 fun r21 =>
 (asTup 2 r21).bind fun vs22 =>
 (asSl 5 (vs22.getD 0 .bad)).bind fun es23 =>
 (Ab.asInt .i64 (vs22.getD 1 .bad)).bind fun n24 =>
 (bif n18 != 10 then some (n24 != 10) else some false).bind fun r25 =>
 some (PV.bool r25)
def ref18_fits_M : List PV → Option PV
  | [p0, p1] => ref18_fits lpS p0 p1
  | _ => none
def ref18_Check_L1 (rec3 : List PV × List PV × Int × Unit → Option PV) : (List PV × List PV × Int × Int × Bool × Int × PV × PV × PV × PV × Unit) → (List PV × List PV × Int × Int × Bool × Int × PV × PV × PV × PV × Unit → Option PV) → Option PV := fun s15 rec16 =>
 if decide (s15.2.2.2.2.2.1 ≤ s15.2.2.1) = true then
 (idxP s15.1 s15.2.2.2.2.2.1).bind fun p17 =>
 (Ab.asInt .i64 (cell p17 0)).bind fun n18 =>
 (Ab.asInt .i64 s15.2.2.2.2.2.2.1).bind fun n19 =>
 if (n18 != n19) = true then
 rec16
 (s15.1, s15.2.1, s15.2.2.1, s15.2.2.2.1, s15.2.2.2.2.1,
 IntKind.i64.wrap (s15.2.2.2.2.2.1 + 1), s15.2.2.2.2.2.2.1,
 s15.2.2.2.2.2.2.2.1, s15.2.2.2.2.2.2.2.2.1,
 s15.2.2.2.2.2.2.2.2.2.1, ())
 else
 (idxP s15.1 s15.2.2.2.2.2.1).bind fun p20 =>
 (ref18_count_M [PV.agg [cell p20 0, cell p20 1, cell p20 2, cell p20 3]]).bind fun r21 =>
 (Ab.asInt .i64 r21).bind fun n22 =>
 (bif decide (s15.2.2.2.2.2.1 < s15.2.2.1) then
 (idxP s15.1 s15.2.2.2.2.2.1).bind fun p23 =>
 (Ab.asInt .i64 (cell p23 1)).bind fun n24 =>
 (Ab.asInt .i64 s15.2.2.2.2.2.2.2.2.1).bind fun n25 =>
 some (decide (n24 < n25))
 else some false).bind
 fun r26 =>
 (bif r26 then
 (Ab.asInt .i64 s15.2.2.2.2.2.2.2.1).bind fun n27 =>
 (idxP s15.1 s15.2.2.2.2.2.1).bind fun p28 =>
 (Ab.asInt .i64 (cell p28 2)).bind fun n29 => some (decide (n27 < n29))
 else some false).bind
 fun r30 =>
 if r30 = true then
 rec16
 (s15.1, s15.2.1, s15.2.2.1, IntKind.i64.wrap (s15.2.2.2.1 + n22), true,
 IntKind.i64.wrap (s15.2.2.2.2.2.1 + 1), s15.2.2.2.2.2.2.1,
 s15.2.2.2.2.2.2.2.1, s15.2.2.2.2.2.2.2.2.1,
 s15.2.2.2.2.2.2.2.2.2.1, ())
 else
 rec16
 (s15.1, s15.2.1, s15.2.2.1, IntKind.i64.wrap (s15.2.2.2.1 + n22),
 s15.2.2.2.2.1, IntKind.i64.wrap (s15.2.2.2.2.2.1 + 1),
 s15.2.2.2.2.2.2.1, s15.2.2.2.2.2.2.2.1,
 s15.2.2.2.2.2.2.2.2.1, s15.2.2.2.2.2.2.2.2.2.1, ())
else
 if decide (s15.2.2.2.1 > 256) = true then
 some (PV.tup [PV.int .i64 s15.2.2.1, PV.int .i64 17])
 else
 if s15.2.2.2.2.1 = true then some (PV.tup [PV.int .i64 s15.2.2.1, PV.int .i64 8])
 else rec3 (s15.1, s15.2.1, IntKind.i64.wrap (s15.2.2.1 + 1), ())
def ref18_Check_L2 (L : Lps) : (List PV × List PV × Int × Unit) → (List PV × List PV × Int × Unit → Option PV) → Option PV := fun s2 rec3 =>
 if decide (s2.2.2.1 < (↑s2.1.length : Int)) = true then
 (idxP s2.1 s2.2.2.1).bind fun p4 =>
 (Ab.asInt .i64 (cell p4 0)).bind fun n5 =>
 (bif decide (n5 < 0) then some true
 else (Ab.asInt .i64 (cell p4 0)).bind fun n6 => some (decide (n6 ≥ (↑s2.2.1.length : Int)))).bind
 fun r7 =>
 if r7 = true then some (PV.tup [PV.int .i64 s2.2.2.1, PV.int .i64 9])
 else
 (ref18_Sound_M [PV.agg [cell p4 0, cell p4 1, cell p4 2, cell p4 3]]).bind fun r8 =>
 (Ab.asBool r8).bind fun b9 =>
 (bif !b9 then some true
 else
 (Ab.asInt .i64 (cell p4 0)).bind fun n10 =>
 (idxP s2.2.1 n10).bind fun p11 =>
 (ref18_fits_M
 [PV.agg [cell p11 0, cell p11 1, cell p11 2, cell p11 3, cell p11 4],
 PV.agg [cell p4 0, cell p4 1, cell p4 2, cell p4 3]]).bind
 fun r12 => (Ab.asBool r12).bind fun b13 => some !b13).bind
 fun r14 =>
 if r14 = true then some (PV.tup [PV.int .i64 s2.2.2.1, PV.int .i64 10])
 else
 L.run (ref18_Check_L1 rec3)
 (s2.1, s2.2.1, s2.2.2.1, 0, false, 0, cell p4 0, cell p4 1, cell p4 2, cell p4 3, ())
else some (PV.tup [PV.int .i64 0, PV.int .i64 0])
def ref18_Check (L : Lps) (p0 : PV) (p1 : PV) : Option PV :=
 (asSl 4 p0).bind fun es0 =>
 (asSl 5 p1).bind fun es1 =>
 if decide ((↑es0.length : Int) > 64) = true then some (PV.tup [PV.int .i64 0, PV.int .i64 5])
 else L.run (ref18_Check_L2 L) (es0, es1, 0, ())
def ref18_Check_M : List PV → Option PV
  | [p0, p1] => ref18_Check lpS p0 p1
  | _ => none
def ref19_Has_L1 : (List PV × Int × Int × Unit) → (List PV × Int × Int × Unit → Option PV) → Option PV := fun s2 rec3 =>
 if decide (s2.2.2.1 < (↑s2.1.length : Int)) = true then
 (idxP s2.1 s2.2.2.1).bind fun p4 =>
 (Ab.asInt .i64 (cell p4 0)).bind fun n5 =>
 if (n5 == s2.2.1) = true then some (PV.bool true)
 else rec3 (s2.1, s2.2.1, IntKind.i64.wrap (s2.2.2.1 + 1), ())
else some (PV.bool false)
def ref19_Has (L : Lps) (p0 : PV) (p1 : PV) : Option PV :=
 (asSl 1 p0).bind fun es0 => (Ab.asInt .i64 p1).bind fun n1 => L.run ref19_Has_L1 (es0, n1, 0, ())
def ref19_Has_M : List PV → Option PV
  | [p0, p1] => ref19_Has lpS p0 p1
  | _ => none
def ref19_Next_L1 : (List PV × Int × Int × Unit) → (List PV × Int × Int × Unit → Option PV) → Option PV := fun s2 rec3 =>
 if decide (s2.2.2.1 < (↑s2.1.length : Int)) = true then
 (idxP s2.1 s2.2.2.1).bind fun p4 =>
 (Ab.asInt .i64 (cell p4 0)).bind fun n5 =>
 if (n5 == s2.2.1) = true then
 (idxP s2.1 s2.2.2.1).bind fun p6 =>
 (Ab.asInt .i64 (cell p6 1)).bind fun n7 => some (PV.tup [PV.int .i64 n7, PV.bool true])
 else rec3 (s2.1, s2.2.1, IntKind.i64.wrap (s2.2.2.1 + 1), ())
else some (PV.tup [PV.int .i64 0, PV.bool false])
def ref19_Next (L : Lps) (p0 : PV) (p1 : PV) : Option PV :=
 (asSl 2 p0).bind fun es0 => (Ab.asInt .i64 p1).bind fun n1 => L.run ref19_Next_L1 (es0, n1, 0, ())
def ref19_Next_M : List PV → Option PV
  | [p0, p1] => ref19_Next lpS p0 p1
  | _ => none
def ref19_Chain_L1 (L : Lps) : (List PV × Int × Int × List PV × Unit) → (List PV × Int × Int × List PV × Unit → Option PV) → Option PV := fun s2 rec3 =>
 if decide (s2.2.2.1 < s2.2.1) = true then
 if inRange (IntKind.i64.wrap ((↑s2.2.2.2.1.length : Int) - 1)) s2.2.2.2.1.length then
 s2.2.2.2.1[(IntKind.i64.wrap ((↑s2.2.2.2.1.length : Int) - 1)).toNat]?.bind fun e4 =>
 (Ab.asInt .i64 (cell e4 0)).bind fun n5 =>
 (ref19_Next_M [PV.rs 2 s2.1, PV.int .i64 n5]).bind fun r6 =>
 (asTup 2 r6).bind fun vs7 =>
 (Ab.asInt .i64 (vs7.getD 0 .bad)).bind fun n8 =>
 (Ab.asBool (vs7.getD 1 .bad)).bind fun b9 =>
 (bif !b9 then some true
 else
 (ref19_Has_M [PV.rs 1 s2.2.2.2.1, PV.int .i64 n8]).bind fun r10 =>
 (Ab.asBool r10).bind fun b11 => some b11).bind
 fun r12 =>
 if r12 = true then some (PV.rs 1 s2.2.2.2.1)
 else
 if (s2.2.2.2.1 ++ [PV.int .i64 n8]).length * 8 ≤ roomBound ∧ 0 < 8 then
 rec3
 (s2.1, s2.2.1, IntKind.i64.wrap (s2.2.2.1 + 1),
 s2.2.2.2.1 ++ [PV.int .i64 n8], ())
 else none
 else none
else some (PV.rs 1 s2.2.2.2.1)
def ref19_Chain (L : Lps) (p0 : PV) (p1 : PV) : Option PV :=
 (asSl 2 p0).bind fun es0 =>
 (Ab.asInt .i64 p1).bind fun n1 =>
 L.run (ref19_Chain_L1 L) (es0, (↑es0.length : Int), 0, [PV.int .i64 n1], ())
def ref19_Chain_M : List PV → Option PV
  | [p0, p1] => ref19_Chain lpS p0 p1
  | _ => none
def ref19_in (L : Lps) (p0 : PV) (p1 : PV) : Option PV :=
 (Ab.asInt .i64 p0).bind fun n0 =>
 (Ab.asInt .i64 p1).bind fun n1 =>
 (bif decide (n0 ≥ 0) then some (decide (n0 < n1)) else some false).bind fun r2 => some (PV.bool r2)
def ref19_in_M : List PV → Option PV
  | [p0, p1] => ref19_in lpS p0 p1
  | _ => none
def ref19_repeated_L1 : (List PV × Int × Int × Unit) → (List PV × Int × Int × Unit → Option PV) → Option PV := fun s2 rec3 =>
 if decide (s2.2.2.1 < (↑s2.1.length : Int)) = true then
 (idxP s2.1 s2.2.2.1).bind fun p4 =>
 (Ab.asInt .i64 (cell p4 0)).bind fun n5 =>
 if (n5 == s2.2.1) = true then some (PV.bool true)
 else rec3 (s2.1, s2.2.1, IntKind.i64.wrap (s2.2.2.1 + 1), ())
else some (PV.bool false)
def ref19_repeated (L : Lps) (p0 : PV) (p1 : PV) : Option PV :=
 (asSl 4 p0).bind fun es0 => (Ab.asInt .i64 p1).bind fun n1 => L.run ref19_repeated_L1 (es0, n1, 0, ())
def ref19_repeated_M : List PV → Option PV
  | [p0, p1] => ref19_repeated lpS p0 p1
  | _ => none
def ref19_one_L1 (L : Lps) : (List PV × Int × Int × PV × PV × Unit) → (List PV × Int × Int × PV × PV × Unit → Option PV) → Option PV := fun s44 rec45 =>
 if decide (s44.2.2.1 < s44.2.1) = true then
 (idxP s44.1 s44.2.2.1).bind fun p46 =>
 (Ab.asInt .i64 (cell p46 0)).bind fun n47 =>
 (Ab.asInt .i64 s44.2.2.2.1).bind fun n48 =>
 (bif n47 == n48 then some true
 else
 (idxP s44.1 s44.2.2.1).bind fun p49 =>
 (Ab.asInt .i64 (cell p49 1)).bind fun n50 =>
 (Ab.asInt .i64 s44.2.2.2.2.1).bind fun n51 => some (n50 == n51)).bind
 fun r52 =>
 if r52 = true then some (PV.int .i64 6)
 else
 rec45
 (s44.1, s44.2.1, IntKind.i64.wrap (s44.2.2.1 + 1), s44.2.2.2.1,
 s44.2.2.2.2.1, ())
else
 if (0 : Int) ≤ 0 ∧ 0 ≤ s44.2.1 ∧ s44.2.1 ≤ (↑s44.1.length : Int) ∧ 2 = 2 ∧ 2 ≠ 0 then
 (Ab.asInt .i64 s44.2.2.2.2.1).bind fun n53 =>
 (ref19_Chain_M
 [PV.rs 2 (List.drop (Int.toNat 0) (List.take s44.2.1.toNat s44.1)), PV.int .i64 n53]).bind
 fun r54 =>
 (asSl 1 r54).bind fun es55 =>
 (Ab.asInt .i64 s44.2.2.2.1).bind fun n56 =>
 (ref19_Has_M [PV.rs 1 es55, PV.int .i64 n56]).bind fun r57 =>
 (Ab.asBool r57).bind fun b58 =>
 if b58 = true then some (PV.int .i64 19) else some (PV.int .i64 0)
 else none
def ref19_one (L : Lps) (p0 : PV) (p1 : PV) (p2 : PV) (p3 : PV) : Option PV :=
 (asSl 2 p0).bind fun es0 =>
 (Ab.asInt .i64 p1).bind fun n1 =>
 (asSl 5 p2).bind fun es2 =>
 (asSl 4 p3).bind fun es3 =>
 (idxP es0 n1).bind fun p4 =>
 (Ab.asInt .i64 (cell p4 0)).bind fun n5 =>
 (ref19_in_M [PV.int .i64 n5, PV.int .i64 (↑es2.length : Int)]).bind fun r6 =>
 (Ab.asBool r6).bind fun b7 =>
 (bif !b7 then some true
 else
 (Ab.asInt .i64 (cell p4 1)).bind fun n8 =>
 (ref19_in_M [PV.int .i64 n8, PV.int .i64 (↑es2.length : Int)]).bind fun r9 =>
 (Ab.asBool r9).bind fun b10 => some !b10).bind
 fun r11 =>
 (bif r11 then some true
 else
 (Ab.asInt .i64 (cell p4 0)).bind fun n12 =>
 (Ab.asInt .i64 (cell p4 1)).bind fun n13 => some (n12 == n13)).bind
 fun r14 =>
 if r14 = true then some (PV.int .i64 9)
 else
 (Ab.asInt .i64 (cell p4 0)).bind fun n15 =>
 (ref19_repeated_M [PV.rs 4 es3, PV.int .i64 n15]).bind fun r16 =>
 (Ab.asBool r16).bind fun b17 =>
 (bif b17 then some true
 else
 (Ab.asInt .i64 (cell p4 1)).bind fun n18 =>
 (ref19_repeated_M [PV.rs 4 es3, PV.int .i64 n18]).bind fun r19 =>
 (Ab.asBool r19).bind fun b20 => some b20).bind
 fun r21 =>
 if r21 = true then some (PV.int .i64 17)
 else
 (Ab.asInt .i64 (cell p4 0)).bind fun n22 =>
 (idxP es2 n22).bind fun p23 =>
 (Ab.asInt .i64 (cell p4 1)).bind fun n24 =>
 (idxP es2 n24).bind fun p25 =>
 (Ab.asInt .i64 (cell p23 2)).bind fun n26 =>
 (Ab.asInt .i64 (cell p25 2)).bind fun n27 =>
 if (n26 != n27) = true then some (PV.int .i64 15)
 else
 (asSl 5 (cell p23 4)).bind fun es28 =>
 (bif decide (IntKind.i64.wrap ((↑es28.length : Int) - 1) < 0) then
 some true
 else
 (asSl 5 (cell p25 4)).bind fun es29 =>
 some ((↑es29.length : Int) == 0)).bind
 fun r30 =>
 (bif r30 then some true
 else
 (asSl 5 (cell p23 4)).bind fun es31 =>
 (idxP es31 (IntKind.i64.wrap ((↑es28.length : Int) - 1))).bind
 fun p32 =>
 (Ab.asInt .i64 (cell p32 0)).bind fun n33 =>
 (asSl 5 (cell p25 4)).bind fun es34 =>
 (idxP es34 0).bind fun p35 =>
 (Ab.asInt .i64 (cell p35 0)).bind fun n36 =>
 some (n33 != n36)).bind
 fun r37 =>
 if r37 = true then some (PV.int .i64 13)
 else
 (asSl 5 (cell p25 4)).bind fun es38 =>
 (idxP es38 0).bind fun p39 =>
 (Ab.asInt .i64 (cell p39 2)).bind fun n40 =>
 (asSl 5 (cell p23 4)).bind fun es41 =>
 (idxP es41
 (IntKind.i64.wrap ((↑es28.length : Int) - 1))).bind
 fun p42 =>
 (Ab.asInt .i64 (cell p42 1)).bind fun n43 =>
 if decide (n40 < n43) = true then
 some (PV.int .i64 10)
 else
 L.run (ref19_one_L1 L)
 (es0, n1, 0, cell p4 0, cell p4 1, ())
def ref19_one_M : List PV → Option PV
  | [p0, p1, p2, p3] => ref19_one lpS p0 p1 p2 p3
  | _ => none
def ref19_Check_L1 : (List PV × List PV × List PV × Int × Unit) → (List PV × List PV × List PV × Int × Unit → Option PV) → Option PV := fun s3 rec4 =>
 if decide (s3.2.2.2.1 < (↑s3.1.length : Int)) = true then
 (ref19_one_M [PV.rs 2 s3.1, PV.int .i64 s3.2.2.2.1, PV.rs 5 s3.2.1, PV.rs 4 s3.2.2.1]).bind
 fun r5 =>
 (Ab.asInt .i64 r5).bind fun n6 =>
 if (n6 != 0) = true then some (PV.tup [PV.int .i64 s3.2.2.2.1, PV.int .i64 n6])
 else rec4 (s3.1, s3.2.1, s3.2.2.1, IntKind.i64.wrap (s3.2.2.2.1 + 1), ())
else some (PV.tup [PV.int .i64 0, PV.int .i64 0])
def ref19_Check (L : Lps) (p0 : PV) (p1 : PV) (p2 : PV) : Option PV :=
 (asSl 2 p0).bind fun es0 =>
 (asSl 5 p1).bind fun es1 =>
 (asSl 4 p2).bind fun es2 =>
 if decide ((↑es0.length : Int) > 128) = true then some (PV.tup [PV.int .i64 0, PV.int .i64 5])
 else L.run ref19_Check_L1 (es0, es1, es2, 0, ())
def ref19_Check_M : List PV → Option PV
  | [p0, p1, p2] => ref19_Check lpS p0 p1 p2
  | _ => none
def ref19_Meets_L1 : (List PV × List PV × Int × Int × Int × Unit) → (List PV × List PV × Int × Int × Int × Unit → Option PV) → Option PV := fun s10 rec11 =>
 if decide (IntKind.i64.wrap (s10.2.2.2.2.1 + 1) < (↑s10.2.1.length : Int)) = true then
 (idxP s10.2.1 s10.2.2.2.2.1).bind fun p12 =>
 (Ab.asInt .i64 (cell p12 0)).bind fun n13 =>
 (bif n13 == s10.2.2.1 then
 (idxP s10.2.1 s10.2.2.2.2.1).bind fun p14 => (Ab.asBool (cell p14 3)).bind fun b15 => some b15
 else some false).bind
 fun r16 =>
 if r16 = true then
 (idxP s10.2.1 s10.2.2.2.2.1).bind fun p17 =>
 (Ab.asInt .i64 (cell p17 2)).bind fun n18 =>
 (idxP s10.1 s10.2.2.2.1).bind fun p19 =>
 (Ab.asInt .i64 (cell p19 1)).bind fun n20 =>
 if decide (n18 < n20) = true then
 some (PV.tup [PV.int .i64 0, PV.int .i64 0, PV.bool false])
 else
 some
 (PV.tup
 [PV.int .i64 s10.2.2.2.1, PV.int .i64 s10.2.2.2.2.1,
 PV.bool true])
 else
 rec11
 (s10.1, s10.2.1, s10.2.2.1, s10.2.2.2.1, IntKind.i64.wrap (s10.2.2.2.2.1 + 1),
 ())
else some (PV.tup [PV.int .i64 0, PV.int .i64 0, PV.bool false])
def ref19_Meets_L2 (L : Lps) : (List PV × List PV × Int × Int × Unit) → (List PV × List PV × Int × Int × Unit → Option PV) → Option PV := fun s3 rec4 =>
 if decide (s3.2.2.2.1 < (↑s3.1.length : Int)) = true then
 (idxP s3.1 s3.2.2.2.1).bind fun p5 =>
 (Ab.asInt .i64 (cell p5 0)).bind fun n6 =>
 (bif n6 != s3.2.2.1 then some true
 else (idxP s3.1 s3.2.2.2.1).bind fun p7 => (Ab.asBool (cell p7 4)).bind fun b8 => some !b8).bind
 fun r9 =>
 if r9 = true then rec4 (s3.1, s3.2.1, s3.2.2.1, IntKind.i64.wrap (s3.2.2.2.1 + 1), ())
 else L.run ref19_Meets_L1 (s3.1, s3.2.1, s3.2.2.1, s3.2.2.2.1, 0, ())
else some (PV.tup [PV.int .i64 0, PV.int .i64 0, PV.bool false])
def ref19_Meets (L : Lps) (p0 : PV) (p1 : PV) (p2 : PV) : Option PV :=
 (asSl 5 p0).bind fun es0 =>
 (asSl 5 p1).bind fun es1 => (Ab.asInt .i64 p2).bind fun n2 => L.run (ref19_Meets_L2 L) (es0, es1, n2, 1, ())
def ref19_Meets_M : List PV → Option PV
  | [p0, p1, p2] => ref19_Meets lpS p0 p1 p2
  | _ => none
def ref19_guarantee_L1 : (List PV × Int × Int × PV × PV × PV × Unit) → (List PV × Int × Int × PV × PV × PV × Unit → Option PV) → Option PV := fun s39 rec40 =>
 if decide (s39.2.2.1 < s39.2.1) = true then
 (idxP s39.1 s39.2.2.1).bind fun p41 =>
 if
 chk (Kd.int IntKind.i64 :: [].append (Kd.int IntKind.i64 :: [].append (Kd.int IntKind.i64 :: [].append [])))
 [cell p41 0, cell p41 1, cell p41 2] =
 true ∧
 chk (Kd.int IntKind.i64 :: [].append (Kd.int IntKind.i64 :: [].append (Kd.int IntKind.i64 :: [].append [])))
 [s39.2.2.2.1, s39.2.2.2.2.1, s39.2.2.2.2.2.1] =
 true then
 if
 peqL [cell p41 0, cell p41 1, cell p41 2]
 [s39.2.2.2.1, s39.2.2.2.2.1, s39.2.2.2.2.2.1] =
 true then
 some (PV.int .i64 6)
 else
 rec40
 (s39.1, s39.2.1, IntKind.i64.wrap (s39.2.2.1 + 1), s39.2.2.2.1, s39.2.2.2.2.1,
 s39.2.2.2.2.2.1, ())
 else none
else some (PV.int .i64 0)
def ref19_guarantee (L : Lps) (p0 : PV) (p1 : PV) (p2 : PV) (p3 : PV) (p4 : PV) : Option PV :=
 (asSl 3 p0).bind fun es0 =>
 (Ab.asInt .i64 p1).bind fun n1 =>
 (asSl 5 p2).bind fun es2 =>
 (asSl 4 p3).bind fun es3 =>
 (Ab.asInt .i64 p4).bind fun n4 =>
 (idxP es0 n1).bind fun p5 =>
 (Ab.asInt .i64 (cell p5 0)).bind fun n6 =>
 (ref19_in_M [PV.int .i64 n6, PV.int .i64 (↑es2.length : Int)]).bind fun r7 =>
 (Ab.asBool r7).bind fun b8 =>
 (bif !b8 then some true
 else
 (Ab.asInt .i64 (cell p5 1)).bind fun n9 =>
 (ref19_in_M [PV.int .i64 n9, PV.int .i64 (↑es2.length : Int)]).bind fun r10 =>
 (Ab.asBool r10).bind fun b11 => some !b11).bind
 fun r12 =>
 (bif r12 then some true
 else
 (Ab.asInt .i64 (cell p5 0)).bind fun n13 =>
 (Ab.asInt .i64 (cell p5 1)).bind fun n14 => some (n13 == n14)).bind
 fun r15 =>
 (bif r15 then some true
 else
 (Ab.asInt .i64 (cell p5 2)).bind fun n16 =>
 (ref19_in_M [PV.int .i64 n16, PV.int .i64 n4]).bind fun r17 =>
 (Ab.asBool r17).bind fun b18 => some !b18).bind
 fun r19 =>
 if r19 = true then some (PV.int .i64 9)
 else
 (Ab.asInt .i64 (cell p5 0)).bind fun n20 =>
 (ref19_repeated_M [PV.rs 4 es3, PV.int .i64 n20]).bind fun r21 =>
 (Ab.asBool r21).bind fun b22 =>
 (bif b22 then some true
 else
 (Ab.asInt .i64 (cell p5 1)).bind fun n23 =>
 (ref19_repeated_M [PV.rs 4 es3, PV.int .i64 n23]).bind fun r24 =>
 (Ab.asBool r24).bind fun b25 => some b25).bind
 fun r26 =>
 if r26 = true then some (PV.int .i64 17)
 else
 (Ab.asInt .i64 (cell p5 0)).bind fun n27 =>
 (idxP es2 n27).bind fun p28 =>
 (asSl 5 (cell p28 4)).bind fun es29 =>
 (Ab.asInt .i64 (cell p5 1)).bind fun n30 =>
 (idxP es2 n30).bind fun p31 =>
 (asSl 5 (cell p31 4)).bind fun es32 =>
 (Ab.asInt .i64 (cell p5 2)).bind fun n33 =>
 (ref19_Meets_M
 [PV.rs 5 es29, PV.rs 5 es32, PV.int .i64 n33]).bind
 fun r34 =>
 (asTup 3 r34).bind fun vs35 =>
 (Ab.asInt .i64 (vs35.getD 0 .bad)).bind fun n36 =>
 (Ab.asInt .i64 (vs35.getD 1 .bad)).bind fun n37 =>
 (Ab.asBool (vs35.getD 2 .bad)).bind fun b38 =>
 if (!b38) = true then some (PV.int .i64 19)
 else
 L.run ref19_guarantee_L1
 (es0, n1, 0, cell p5 0, cell p5 1, cell p5 2, ())
def ref19_guarantee_M : List PV → Option PV
  | [p0, p1, p2, p3, p4] => ref19_guarantee lpS p0 p1 p2 p3 p4
  | _ => none
def ref19_CheckGuarantees_L1 : (List PV × List PV × List PV × Int × Int × Unit) → (List PV × List PV × List PV × Int × Int × Unit → Option PV) → Option PV := fun s4 rec5 =>
 if decide (s4.2.2.2.2.1 < (↑s4.1.length : Int)) = true then
 (ref19_guarantee_M
 [PV.rs 3 s4.1, PV.int .i64 s4.2.2.2.2.1, PV.rs 5 s4.2.1, PV.rs 4 s4.2.2.1,
 PV.int .i64 s4.2.2.2.1]).bind
 fun r6 =>
 (Ab.asInt .i64 r6).bind fun n7 =>
 if (n7 != 0) = true then some (PV.tup [PV.int .i64 s4.2.2.2.2.1, PV.int .i64 n7])
 else
 rec5 (s4.1, s4.2.1, s4.2.2.1, s4.2.2.2.1, IntKind.i64.wrap (s4.2.2.2.2.1 + 1), ())
else some (PV.tup [PV.int .i64 0, PV.int .i64 0])
def ref19_CheckGuarantees (L : Lps) (p0 : PV) (p1 : PV) (p2 : PV) (p3 : PV) : Option PV :=
 (asSl 3 p0).bind fun es0 =>
 (asSl 5 p1).bind fun es1 =>
 (asSl 4 p2).bind fun es2 =>
 (Ab.asInt .i64 p3).bind fun n3 =>
 if decide ((↑es0.length : Int) > 128) = true then some (PV.tup [PV.int .i64 0, PV.int .i64 5])
 else L.run ref19_CheckGuarantees_L1 (es0, es1, es2, n3, 0, ())
def ref19_CheckGuarantees_M : List PV → Option PV
  | [p0, p1, p2, p3] => ref19_CheckGuarantees lpS p0 p1 p2 p3
  | _ => none
def ref20_valid_L1 (rec3 : List PV × Int × Int × Unit → Option PV) : (List PV × Int × Int × Int × PV × PV × PV × PV × Unit) → (List PV × Int × Int × Int × PV × PV × PV × PV × Unit → Option PV) → Option PV := fun s18 rec19 =>
 if decide (s18.2.2.2.1 < s18.2.2.1) = true then
 (idxP s18.1 s18.2.2.2.1).bind fun p20 =>
 (Ab.asInt .i64 (cell p20 0)).bind fun n21 =>
 (Ab.asInt .i64 s18.2.2.2.2.1).bind fun n22 =>
 (bif n21 == n22 then
 (idxP s18.1 s18.2.2.2.1).bind fun p23 =>
 (Ab.asInt .i64 (cell p23 1)).bind fun n24 =>
 (Ab.asInt .i64 s18.2.2.2.2.2.1).bind fun n25 => some (n24 == n25)
 else some false).bind
 fun r26 =>
 (bif r26 then
 (idxP s18.1 s18.2.2.2.1).bind fun p27 =>
 (Ab.asBool (cell p27 3)).bind fun b28 =>
 (Ab.asBool s18.2.2.2.2.2.2.2.1).bind fun b29 => some (b28 == b29)
 else some false).bind
 fun r30 =>
 if r30 = true then some (PV.tup [PV.int .i64 s18.2.2.1, PV.int .i64 6])
 else
 rec19
 (s18.1, s18.2.1, s18.2.2.1, IntKind.i64.wrap (s18.2.2.2.1 + 1),
 s18.2.2.2.2.1, s18.2.2.2.2.2.1, s18.2.2.2.2.2.2.1,
 s18.2.2.2.2.2.2.2.1, ())
else rec3 (s18.1, s18.2.1, IntKind.i64.wrap (s18.2.2.1 + 1), ())
def ref20_valid_L2 (L : Lps) : (List PV × Int × Int × Unit) → (List PV × Int × Int × Unit → Option PV) → Option PV := fun s2 rec3 =>
 if decide (s2.2.2.1 < (↑s2.1.length : Int)) = true then
 (idxP s2.1 s2.2.2.1).bind fun p4 =>
 (Ab.asInt .i64 (cell p4 0)).bind fun n5 =>
 (bif decide (n5 < 0) then some true
 else (Ab.asInt .i64 (cell p4 0)).bind fun n6 => some (decide (n6 ≥ s2.2.1))).bind
 fun r7 =>
 (bif r7 then some true else (Ab.asInt .i64 (cell p4 1)).bind fun n8 => some (decide (n8 < 0))).bind
 fun r9 =>
 (bif r9 then some true
 else (Ab.asInt .i64 (cell p4 1)).bind fun n10 => some (decide (n10 ≥ s2.2.1))).bind
 fun r11 =>
 (bif r11 then some true
 else
 (Ab.asInt .i64 (cell p4 0)).bind fun n12 =>
 (Ab.asInt .i64 (cell p4 1)).bind fun n13 => some (n12 == n13)).bind
 fun r14 =>
 if r14 = true then some (PV.tup [PV.int .i64 s2.2.2.1, PV.int .i64 9])
 else
 (Ab.asInt .i64 (cell p4 2)).bind fun n15 =>
 (bif decide (n15 < 1) then some true
 else (Ab.asInt .i64 (cell p4 2)).bind fun n16 => some (decide (n16 > 14400))).bind
 fun r17 =>
 if r17 = true then some (PV.tup [PV.int .i64 s2.2.2.1, PV.int .i64 2])
 else
 L.run (ref20_valid_L1 rec3)
 (s2.1, s2.2.1, s2.2.2.1, 0, cell p4 0, cell p4 1, cell p4 2, cell p4 3, ())
else some (PV.tup [PV.int .i64 0, PV.int .i64 0])
def ref20_valid (L : Lps) (p0 : PV) (p1 : PV) : Option PV :=
 (asSl 4 p0).bind fun es0 => (Ab.asInt .i64 p1).bind fun n1 => L.run (ref20_valid_L2 L) (es0, n1, 0, ())
def ref20_valid_M : List PV → Option PV
  | [p0, p1] => ref20_valid lpS p0 p1
  | _ => none
def ref20_Check (L : Lps) (p0 : PV) (p1 : PV) : Option PV :=
 (asSl 4 p0).bind fun es0 =>
 (Ab.asInt .i64 p1).bind fun n1 =>
 if decide ((↑es0.length : Int) > 512) = true then some (PV.tup [PV.int .i64 0, PV.int .i64 5])
 else
 (ref20_valid_M [PV.rs 4 es0, PV.int .i64 n1]).bind fun r2 =>
 (asTup 2 r2).bind fun vs3 =>
 (Ab.asInt .i64 (vs3.getD 0 .bad)).bind fun n4 =>
 (Ab.asInt .i64 (vs3.getD 1 .bad)).bind fun n5 =>
 some (PV.tup [PV.int .i64 n4, PV.int .i64 n5])
def ref20_Check_M : List PV → Option PV
  | [p0, p1] => ref20_Check lpS p0 p1
  | _ => none
def ref21_within (L : Lps) (p0 : PV) (p1 : PV) (p2 : PV) : Option PV :=
 (Ab.asInt .i64 p0).bind fun n0 =>
 (Ab.asInt .i64 p1).bind fun n1 =>
 (Ab.asInt .i64 p2).bind fun n2 =>
 (bif decide (n0 ≥ n1) then some (decide (n0 ≤ n2)) else some false).bind fun r3 => some (PV.bool r3)
def ref21_within_M : List PV → Option PV
  | [p0, p1, p2] => ref21_within lpS p0 p1 p2
  | _ => none
def ref21_Right (L : Lps) (p0 : PV) : Option PV :=
 (Ab.asAgg 6 p0).bind fun x0 =>
 (asStr (cell p0 0)).bind fun s1 =>
 (Ab.asInt .i64 (cell p0 1)).bind fun n2 =>
 (Ab.asInt .i64 (cell p0 2)).bind fun n3 =>
 (Ab.asInt .i64 (cell p0 3)).bind fun n4 =>
 (Ab.asInt .i64 (cell p0 4)).bind fun n5 =>
 (Ab.asInt .i64 (cell p0 5)).bind fun n6 =>
 (ref21_within_M [PV.int .i64 n2, PV.int .i64 0, PV.int .i64 1000000]).bind fun r7 =>
 (Ab.asBool r7).bind fun b8 =>
 (bif b8 then
 (ref21_within_M [PV.int .i64 n3, PV.int .i64 1, PV.int .i64 8]).bind
 fun r9 => (Ab.asBool r9).bind fun b10 => some b10
 else some false).bind
 fun r11 =>
 (bif r11 then
 (ref21_within_M [PV.int .i64 n4, PV.int .i64 1, PV.int .i64 16]).bind
 fun r12 => (Ab.asBool r12).bind fun b13 => some b13
 else some false).bind
 fun r14 =>
 (bif r14 then
 (ref21_within_M
 [PV.int .i64 n5, PV.int .i64 0, PV.int .i64 86400]).bind
 fun r15 => (Ab.asBool r15).bind fun b16 => some b16
 else some false).bind
 fun r17 =>
 (bif r17 then
 (ref21_within_M
 [PV.int .i64 n6, PV.int .i64 1, PV.int .i64 255]).bind
 fun r18 => (Ab.asBool r18).bind fun b19 => some b19
 else some false).bind
 fun r20 => some (PV.bool r20)
def ref21_Right_M : List PV → Option PV
  | [p0] => ref21_Right lpS p0
  | _ => none
def ref21_Check_L1 (rec14 : List PV × Int × Unit → Option PV) : (List PV × Int × Int × Unit) → (List PV × Int × Int × Unit → Option PV) → Option PV := fun s19 rec20 =>
 if decide (s19.2.2.1 < s19.2.1) = true then
 (idxP s19.1 s19.2.2.1).bind fun p21 =>
 (asStr (cell p21 0)).bind fun s22 =>
 (idxP s19.1 s19.2.1).bind fun p23 =>
 (asStr (cell p23 0)).bind fun s24 =>
 if (s22 == s24) = true then some (PV.tup [PV.int .i64 s19.2.1, PV.int .i64 6])
 else rec20 (s19.1, s19.2.1, IntKind.i64.wrap (s19.2.2.1 + 1), ())
else
 (idxP s19.1 s19.2.1).bind fun p25 =>
 (ref21_Right_M [PV.agg [cell p25 0, cell p25 1, cell p25 2, cell p25 3, cell p25 4, cell p25 5]]).bind fun r26 =>
 (Ab.asBool r26).bind fun b27 =>
 if (!b27) = true then some (PV.tup [PV.int .i64 s19.2.1, PV.int .i64 2])
 else rec14 (s19.1, IntKind.i64.wrap (s19.2.1 + 1), ())
def ref21_Check_L2 (L : Lps) : (List PV × Int × Unit) → (List PV × Int × Unit → Option PV) → Option PV := fun s13 rec14 =>
 if decide (s13.2.1 < (↑s13.1.length : Int)) = true then
 (idxP s13.1 s13.2.1).bind fun p15 =>
 (asStr (cell p15 0)).bind fun s16 =>
 (ref15_Name_M [PV.str s16]).bind fun r17 =>
 (Ab.asBool r17).bind fun b18 =>
 if (!b18) = true then some (PV.tup [PV.int .i64 s13.2.1, PV.int .i64 12])
 else L.run (ref21_Check_L1 rec14) (s13.1, s13.2.1, 0, ())
else some (PV.tup [PV.int .i64 0, PV.int .i64 0])
def ref21_Check (L : Lps) (p0 : PV) : Option PV :=
 (Ab.asAgg 4 p0).bind fun x0 =>
 (asSl 6 (cell p0 0)).bind fun es1 =>
 (Ab.asInt .i64 (cell p0 1)).bind fun n2 =>
 (Ab.asInt .i64 (cell p0 2)).bind fun n3 =>
 (Ab.asInt .i64 (cell p0 3)).bind fun n4 =>
 (ref21_within_M [PV.int .i64 n2, PV.int .i64 0, PV.int .i64 1000000]).bind fun r5 =>
 (Ab.asBool r5).bind fun b6 =>
 (bif !b6 then some true
 else
 (ref21_within_M [PV.int .i64 n3, PV.int .i64 0, PV.int .i64 86400]).bind
 fun r7 => (Ab.asBool r7).bind fun b8 => some !b8).bind
 fun r9 =>
 (bif r9 then some true
 else
 (ref21_within_M [PV.int .i64 n4, PV.int .i64 0, PV.int .i64 1000000]).bind
 fun r10 => (Ab.asBool r10).bind fun b11 => some !b11).bind
 fun r12 =>
 if r12 = true then some (PV.tup [PV.int .i64 (-1), PV.int .i64 2])
 else
 if decide ((↑es1.length : Int) > 16) = true then
 some (PV.tup [PV.int .i64 0, PV.int .i64 5])
 else L.run (ref21_Check_L2 L) (es1, 0, ())
def ref21_Check_M : List PV → Option PV
  | [p0] => ref21_Check lpS p0
  | _ => none
end Go.Ab
