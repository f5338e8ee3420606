/- Functions of the program as plain Lean functions, printed by a program of the author. -/
import Derived.Test.YtnbhhepiekhbjaaSh1
set_option linter.unusedVariables false
namespace Go.Ab
def lint_Warnings_L1 (L : Lps) (rec83 : PV ×
 List PV ×
 List PV × Int × Int × List PV × List PV × List PV × List PV × List PV × List PV × List PV × List PV × Unit →
 Option PV) : (PV ×
 List PV ×
 Int ×
 List PV ×
 Int ×
 Int ×
 List PV ×
 Int ×
 Int ×
 PV ×
 PV ×
 PV ×
 PV × PV × List PV × List PV × List PV × List PV × List PV × List PV × List PV × List PV × Unit) → (PV ×
 List PV ×
 Int ×
 List PV ×
 Int ×
 Int ×
 List PV ×
 Int ×
 Int ×
 PV ×
 PV ×
 PV ×
 PV ×
 PV × List PV × List PV × List PV × List PV × List PV × List PV × List PV × List PV × Unit →
 Option PV) → Option PV := fun s86 rec87 =>
 if decide (s86.2.2.2.2.2.2.2.2.1 < s86.2.2.2.2.2.2.2.1) = true then
 (idxP s86.2.2.2.2.2.2.1 s86.2.2.2.2.2.2.2.2.1).bind fun p88 =>
 (bif s86.2.2.1 != s86.2.2.2.2.2.2.2.2.1 then
 (Ab.asInt .i64 s86.2.2.2.2.2.2.2.2.2.2.2.1).bind fun n89 =>
 (Ab.asInt .i64 (cell p88 2)).bind fun n90 => some (n89 == n90)
 else some false).bind
 fun r91 =>
 (bif r91 then
 (lint_overtaking_1_M [PV.int .i64 s86.2.2.1, PV.rp [s86.2.1.getD 0 .bad]]).bind
 fun r92 => (Ab.asBool r92).bind fun b93 => some b93
 else some false).bind
 fun r94 =>
 (bif r94 then
 (lint_overtaking_1_M
 [PV.int .i64 s86.2.2.2.2.2.2.2.2.1,
 PV.rp [s86.2.1.getD 0 .bad]]).bind
 fun r95 => (Ab.asBool r95).bind fun b96 => some b96
 else some false).bind
 fun r97 =>
 (bif r97 then
 (trip_Overtakes_M
 [PV.agg
 [s86.2.2.2.2.2.2.2.2.2.1, s86.2.2.2.2.2.2.2.2.2.2.1,
 s86.2.2.2.2.2.2.2.2.2.2.2.1,
 s86.2.2.2.2.2.2.2.2.2.2.2.2.1,
 s86.2.2.2.2.2.2.2.2.2.2.2.2.2.1],
 PV.agg [cell p88 0, cell p88 1, cell p88 2, cell p88 3, cell p88 4]]).bind
 fun r98 => (Ab.asBool r98).bind fun b99 => some b99
 else some false).bind
 fun r100 =>
 bif sameB true r100 then
 (bif
 (↑s86.2.2.2.2.2.2.2.2.2.2.2.2.2.2.2.2.2.2.2.2.2.1.length :
 Int) ==
 0 then
 some true
 else
 if
 inRange
 (IntKind.i64.wrap
 ((↑s86.2.2.2.2.2.2.2.2.2.2.2.2.2.2.2.2.2.2.2.2.2.1.length :
 Int) -
 1))
 s86.2.2.2.2.2.2.2.2.2.2.2.2.2.2.2.2.2.2.2.2.2.1.length then
 s86.2.2.2.2.2.2.2.2.2.2.2.2.2.2.2.2.2.2.2.2.2.1[(IntKind.i64.wrap
 ((↑s86.2.2.2.2.2.2.2.2.2.2.2.2.2.2.2.2.2.2.2.2.2.1.length :
 Int) -
 1)).toNat]?.bind
 fun e101 =>
 if
 chk
 (Kd.int IntKind.i64 ::
 [].append (Kd.int IntKind.i64 :: [].append (Kd.int IntKind.i64 :: [].append [])))
 [cell e101 0, cell e101 1, cell e101 2] =
 true ∧
 chk
 (Kd.int IntKind.i64 ::
 [].append (Kd.int IntKind.i64 :: [].append (Kd.int IntKind.i64 :: [].append [])))
 [PV.int .i64 5, PV.int .i64 s86.2.2.1,
 PV.int .i64 s86.2.2.2.2.2.2.2.2.1] =
 true then
 some
 !peqL [cell e101 0, cell e101 1, cell e101 2]
 [PV.int .i64 5, PV.int .i64 s86.2.2.1,
 PV.int .i64 s86.2.2.2.2.2.2.2.2.1]
 else none
 else none).bind
 fun r102 =>
 if r102 = true then
 if
 (s86.2.2.2.2.2.2.2.2.2.2.2.2.2.2.2.2.2.2.2.2.2.1 ++
 [PV.agg
 [PV.int .i64 5, PV.int .i64 s86.2.2.1,
 PV.int .i64 s86.2.2.2.2.2.2.2.2.1]]).length *
 24 ≤
 roomBound ∧
 0 < 24 then
 rec87
 (PV.agg
 [cell s86.1 0, cell s86.1 1, cell s86.1 2, cell s86.1 3, cell s86.1 4,
 cell s86.1 5, cell s86.1 6, cell s86.1 7, cell s86.1 8, cell s86.1 9,
 cell s86.1 10, cell s86.1 11, cell s86.1 12],
 [s86.2.1.getD 0 .bad], s86.2.2.1, s86.2.2.2.1, s86.2.2.2.2.1,
 s86.2.2.2.2.2.1, s86.2.2.2.2.2.2.1,
 s86.2.2.2.2.2.2.2.1,
 IntKind.i64.wrap (s86.2.2.2.2.2.2.2.2.1 + 1),
 s86.2.2.2.2.2.2.2.2.2.1, s86.2.2.2.2.2.2.2.2.2.2.1,
 s86.2.2.2.2.2.2.2.2.2.2.2.1,
 s86.2.2.2.2.2.2.2.2.2.2.2.2.1,
 s86.2.2.2.2.2.2.2.2.2.2.2.2.2.1,
 [s86.2.2.2.2.2.2.2.2.2.2.2.2.2.2.1.getD 0 .bad,
 s86.2.2.2.2.2.2.2.2.2.2.2.2.2.2.1.getD 1 .bad,
 s86.2.2.2.2.2.2.2.2.2.2.2.2.2.2.1.getD 2 .bad],
 [s86.2.2.2.2.2.2.2.2.2.2.2.2.2.2.2.1.getD 0 .bad,
 s86.2.2.2.2.2.2.2.2.2.2.2.2.2.2.2.1.getD 1 .bad,
 s86.2.2.2.2.2.2.2.2.2.2.2.2.2.2.2.1.getD 2 .bad],
 [s86.2.2.2.2.2.2.2.2.2.2.2.2.2.2.2.2.1.getD 0 .bad,
 s86.2.2.2.2.2.2.2.2.2.2.2.2.2.2.2.2.1.getD 1 .bad,
 s86.2.2.2.2.2.2.2.2.2.2.2.2.2.2.2.2.1.getD 2 .bad],
 [s86.2.2.2.2.2.2.2.2.2.2.2.2.2.2.2.2.2.1.getD 0 .bad,
 s86.2.2.2.2.2.2.2.2.2.2.2.2.2.2.2.2.2.1.getD 1 .bad,
 s86.2.2.2.2.2.2.2.2.2.2.2.2.2.2.2.2.2.1.getD 2 .bad],
 [s86.2.2.2.2.2.2.2.2.2.2.2.2.2.2.2.2.2.2.1.getD 0 .bad,
 s86.2.2.2.2.2.2.2.2.2.2.2.2.2.2.2.2.2.2.1.getD 1 .bad,
 s86.2.2.2.2.2.2.2.2.2.2.2.2.2.2.2.2.2.2.1.getD 2 .bad,
 s86.2.2.2.2.2.2.2.2.2.2.2.2.2.2.2.2.2.2.1.getD 3 .bad,
 s86.2.2.2.2.2.2.2.2.2.2.2.2.2.2.2.2.2.2.1.getD 4 .bad,
 s86.2.2.2.2.2.2.2.2.2.2.2.2.2.2.2.2.2.2.1.getD 5 .bad,
 s86.2.2.2.2.2.2.2.2.2.2.2.2.2.2.2.2.2.2.1.getD 6 .bad,
 s86.2.2.2.2.2.2.2.2.2.2.2.2.2.2.2.2.2.2.1.getD 7 .bad,
 s86.2.2.2.2.2.2.2.2.2.2.2.2.2.2.2.2.2.2.1.getD 8 .bad,
 s86.2.2.2.2.2.2.2.2.2.2.2.2.2.2.2.2.2.2.1.getD 9 .bad,
 s86.2.2.2.2.2.2.2.2.2.2.2.2.2.2.2.2.2.2.1.getD 10
 .bad,
 s86.2.2.2.2.2.2.2.2.2.2.2.2.2.2.2.2.2.2.1.getD 11
 .bad,
 s86.2.2.2.2.2.2.2.2.2.2.2.2.2.2.2.2.2.2.1.getD 12
 .bad,
 s86.2.2.2.2.2.2.2.2.2.2.2.2.2.2.2.2.2.2.1.getD 13
 .bad],
 [s86.2.2.2.2.2.2.2.2.2.2.2.2.2.2.2.2.2.2.2.1.getD 0
 .bad,
 s86.2.2.2.2.2.2.2.2.2.2.2.2.2.2.2.2.2.2.2.1.getD 1
 .bad,
 s86.2.2.2.2.2.2.2.2.2.2.2.2.2.2.2.2.2.2.2.1.getD 2
 .bad],
 [s86.2.2.2.2.2.2.2.2.2.2.2.2.2.2.2.2.2.2.2.2.1.getD 0
 .bad,
 s86.2.2.2.2.2.2.2.2.2.2.2.2.2.2.2.2.2.2.2.2.1.getD 1
 .bad,
 s86.2.2.2.2.2.2.2.2.2.2.2.2.2.2.2.2.2.2.2.2.1.getD 2
 .bad],
 s86.2.2.2.2.2.2.2.2.2.2.2.2.2.2.2.2.2.2.2.2.2.1 ++
 [PV.agg
 [PV.int .i64 5, PV.int .i64 s86.2.2.1,
 PV.int .i64 s86.2.2.2.2.2.2.2.2.1]],
 ())
 else none
 else
 rec87
 (PV.agg
 [cell s86.1 0, cell s86.1 1, cell s86.1 2, cell s86.1 3, cell s86.1 4, cell s86.1 5,
 cell s86.1 6, cell s86.1 7, cell s86.1 8, cell s86.1 9, cell s86.1 10,
 cell s86.1 11, cell s86.1 12],
 [s86.2.1.getD 0 .bad], s86.2.2.1, s86.2.2.2.1, s86.2.2.2.2.1,
 s86.2.2.2.2.2.1, s86.2.2.2.2.2.2.1, s86.2.2.2.2.2.2.2.1,
 IntKind.i64.wrap (s86.2.2.2.2.2.2.2.2.1 + 1),
 s86.2.2.2.2.2.2.2.2.2.1, s86.2.2.2.2.2.2.2.2.2.2.1,
 s86.2.2.2.2.2.2.2.2.2.2.2.1,
 s86.2.2.2.2.2.2.2.2.2.2.2.2.1,
 s86.2.2.2.2.2.2.2.2.2.2.2.2.2.1,
 [s86.2.2.2.2.2.2.2.2.2.2.2.2.2.2.1.getD 0 .bad,
 s86.2.2.2.2.2.2.2.2.2.2.2.2.2.2.1.getD 1 .bad,
 s86.2.2.2.2.2.2.2.2.2.2.2.2.2.2.1.getD 2 .bad],
 [s86.2.2.2.2.2.2.2.2.2.2.2.2.2.2.2.1.getD 0 .bad,
 s86.2.2.2.2.2.2.2.2.2.2.2.2.2.2.2.1.getD 1 .bad,
 s86.2.2.2.2.2.2.2.2.2.2.2.2.2.2.2.1.getD 2 .bad],
 [s86.2.2.2.2.2.2.2.2.2.2.2.2.2.2.2.2.1.getD 0 .bad,
 s86.2.2.2.2.2.2.2.2.2.2.2.2.2.2.2.2.1.getD 1 .bad,
 s86.2.2.2.2.2.2.2.2.2.2.2.2.2.2.2.2.1.getD 2 .bad],
 [s86.2.2.2.2.2.2.2.2.2.2.2.2.2.2.2.2.2.1.getD 0 .bad,
 s86.2.2.2.2.2.2.2.2.2.2.2.2.2.2.2.2.2.1.getD 1 .bad,
 s86.2.2.2.2.2.2.2.2.2.2.2.2.2.2.2.2.2.1.getD 2 .bad],
 [s86.2.2.2.2.2.2.2.2.2.2.2.2.2.2.2.2.2.2.1.getD 0 .bad,
 s86.2.2.2.2.2.2.2.2.2.2.2.2.2.2.2.2.2.2.1.getD 1 .bad,
 s86.2.2.2.2.2.2.2.2.2.2.2.2.2.2.2.2.2.2.1.getD 2 .bad,
 s86.2.2.2.2.2.2.2.2.2.2.2.2.2.2.2.2.2.2.1.getD 3 .bad,
 s86.2.2.2.2.2.2.2.2.2.2.2.2.2.2.2.2.2.2.1.getD 4 .bad,
 s86.2.2.2.2.2.2.2.2.2.2.2.2.2.2.2.2.2.2.1.getD 5 .bad,
 s86.2.2.2.2.2.2.2.2.2.2.2.2.2.2.2.2.2.2.1.getD 6 .bad,
 s86.2.2.2.2.2.2.2.2.2.2.2.2.2.2.2.2.2.2.1.getD 7 .bad,
 s86.2.2.2.2.2.2.2.2.2.2.2.2.2.2.2.2.2.2.1.getD 8 .bad,
 s86.2.2.2.2.2.2.2.2.2.2.2.2.2.2.2.2.2.2.1.getD 9 .bad,
 s86.2.2.2.2.2.2.2.2.2.2.2.2.2.2.2.2.2.2.1.getD 10 .bad,
 s86.2.2.2.2.2.2.2.2.2.2.2.2.2.2.2.2.2.2.1.getD 11 .bad,
 s86.2.2.2.2.2.2.2.2.2.2.2.2.2.2.2.2.2.2.1.getD 12 .bad,
 s86.2.2.2.2.2.2.2.2.2.2.2.2.2.2.2.2.2.2.1.getD 13 .bad],
 [s86.2.2.2.2.2.2.2.2.2.2.2.2.2.2.2.2.2.2.2.1.getD 0
 .bad,
 s86.2.2.2.2.2.2.2.2.2.2.2.2.2.2.2.2.2.2.2.1.getD 1
 .bad,
 s86.2.2.2.2.2.2.2.2.2.2.2.2.2.2.2.2.2.2.2.1.getD 2
 .bad],
 [s86.2.2.2.2.2.2.2.2.2.2.2.2.2.2.2.2.2.2.2.2.1.getD 0
 .bad,
 s86.2.2.2.2.2.2.2.2.2.2.2.2.2.2.2.2.2.2.2.2.1.getD 1
 .bad,
 s86.2.2.2.2.2.2.2.2.2.2.2.2.2.2.2.2.2.2.2.2.1.getD 2
 .bad],
 s86.2.2.2.2.2.2.2.2.2.2.2.2.2.2.2.2.2.2.2.2.2.1, ())
 else
 rec87
 (PV.agg
 [cell s86.1 0, cell s86.1 1, cell s86.1 2, cell s86.1 3, cell s86.1 4, cell s86.1 5,
 cell s86.1 6, cell s86.1 7, cell s86.1 8, cell s86.1 9, cell s86.1 10, cell s86.1 11,
 cell s86.1 12],
 [s86.2.1.getD 0 .bad], s86.2.2.1, s86.2.2.2.1, s86.2.2.2.2.1,
 s86.2.2.2.2.2.1, s86.2.2.2.2.2.2.1, s86.2.2.2.2.2.2.2.1,
 IntKind.i64.wrap (s86.2.2.2.2.2.2.2.2.1 + 1),
 s86.2.2.2.2.2.2.2.2.2.1, s86.2.2.2.2.2.2.2.2.2.2.1,
 s86.2.2.2.2.2.2.2.2.2.2.2.1,
 s86.2.2.2.2.2.2.2.2.2.2.2.2.1,
 s86.2.2.2.2.2.2.2.2.2.2.2.2.2.1,
 [s86.2.2.2.2.2.2.2.2.2.2.2.2.2.2.1.getD 0 .bad,
 s86.2.2.2.2.2.2.2.2.2.2.2.2.2.2.1.getD 1 .bad,
 s86.2.2.2.2.2.2.2.2.2.2.2.2.2.2.1.getD 2 .bad],
 [s86.2.2.2.2.2.2.2.2.2.2.2.2.2.2.2.1.getD 0 .bad,
 s86.2.2.2.2.2.2.2.2.2.2.2.2.2.2.2.1.getD 1 .bad,
 s86.2.2.2.2.2.2.2.2.2.2.2.2.2.2.2.1.getD 2 .bad],
 [s86.2.2.2.2.2.2.2.2.2.2.2.2.2.2.2.2.1.getD 0 .bad,
 s86.2.2.2.2.2.2.2.2.2.2.2.2.2.2.2.2.1.getD 1 .bad,
 s86.2.2.2.2.2.2.2.2.2.2.2.2.2.2.2.2.1.getD 2 .bad],
 [s86.2.2.2.2.2.2.2.2.2.2.2.2.2.2.2.2.2.1.getD 0 .bad,
 s86.2.2.2.2.2.2.2.2.2.2.2.2.2.2.2.2.2.1.getD 1 .bad,
 s86.2.2.2.2.2.2.2.2.2.2.2.2.2.2.2.2.2.1.getD 2 .bad],
 [s86.2.2.2.2.2.2.2.2.2.2.2.2.2.2.2.2.2.2.1.getD 0 .bad,
 s86.2.2.2.2.2.2.2.2.2.2.2.2.2.2.2.2.2.2.1.getD 1 .bad,
 s86.2.2.2.2.2.2.2.2.2.2.2.2.2.2.2.2.2.2.1.getD 2 .bad,
 s86.2.2.2.2.2.2.2.2.2.2.2.2.2.2.2.2.2.2.1.getD 3 .bad,
 s86.2.2.2.2.2.2.2.2.2.2.2.2.2.2.2.2.2.2.1.getD 4 .bad,
 s86.2.2.2.2.2.2.2.2.2.2.2.2.2.2.2.2.2.2.1.getD 5 .bad,
 s86.2.2.2.2.2.2.2.2.2.2.2.2.2.2.2.2.2.2.1.getD 6 .bad,
 s86.2.2.2.2.2.2.2.2.2.2.2.2.2.2.2.2.2.2.1.getD 7 .bad,
 s86.2.2.2.2.2.2.2.2.2.2.2.2.2.2.2.2.2.2.1.getD 8 .bad,
 s86.2.2.2.2.2.2.2.2.2.2.2.2.2.2.2.2.2.2.1.getD 9 .bad,
 s86.2.2.2.2.2.2.2.2.2.2.2.2.2.2.2.2.2.2.1.getD 10 .bad,
 s86.2.2.2.2.2.2.2.2.2.2.2.2.2.2.2.2.2.2.1.getD 11 .bad,
 s86.2.2.2.2.2.2.2.2.2.2.2.2.2.2.2.2.2.2.1.getD 12 .bad,
 s86.2.2.2.2.2.2.2.2.2.2.2.2.2.2.2.2.2.2.1.getD 13 .bad],
 [s86.2.2.2.2.2.2.2.2.2.2.2.2.2.2.2.2.2.2.2.1.getD 0 .bad,
 s86.2.2.2.2.2.2.2.2.2.2.2.2.2.2.2.2.2.2.2.1.getD 1 .bad,
 s86.2.2.2.2.2.2.2.2.2.2.2.2.2.2.2.2.2.2.2.1.getD 2 .bad],
 [s86.2.2.2.2.2.2.2.2.2.2.2.2.2.2.2.2.2.2.2.2.1.getD 0
 .bad,
 s86.2.2.2.2.2.2.2.2.2.2.2.2.2.2.2.2.2.2.2.2.1.getD 1
 .bad,
 s86.2.2.2.2.2.2.2.2.2.2.2.2.2.2.2.2.2.2.2.2.1.getD 2
 .bad],
 s86.2.2.2.2.2.2.2.2.2.2.2.2.2.2.2.2.2.2.2.2.2.1, ())
else
 rec83
 (PV.agg
 [cell s86.1 0, cell s86.1 1, cell s86.1 2, cell s86.1 3, cell s86.1 4, cell s86.1 5, cell s86.1 6,
 cell s86.1 7, cell s86.1 8, cell s86.1 9, cell s86.1 10, cell s86.1 11, cell s86.1 12],
 [s86.2.1.getD 0 .bad], s86.2.2.2.1, s86.2.2.2.2.1,
 IntKind.i64.wrap (s86.2.2.2.2.2.1 + 1),
 [s86.2.2.2.2.2.2.2.2.2.2.2.2.2.2.1.getD 0 .bad,
 s86.2.2.2.2.2.2.2.2.2.2.2.2.2.2.1.getD 1 .bad,
 s86.2.2.2.2.2.2.2.2.2.2.2.2.2.2.1.getD 2 .bad],
 [s86.2.2.2.2.2.2.2.2.2.2.2.2.2.2.2.1.getD 0 .bad,
 s86.2.2.2.2.2.2.2.2.2.2.2.2.2.2.2.1.getD 1 .bad,
 s86.2.2.2.2.2.2.2.2.2.2.2.2.2.2.2.1.getD 2 .bad],
 [s86.2.2.2.2.2.2.2.2.2.2.2.2.2.2.2.2.1.getD 0 .bad,
 s86.2.2.2.2.2.2.2.2.2.2.2.2.2.2.2.2.1.getD 1 .bad,
 s86.2.2.2.2.2.2.2.2.2.2.2.2.2.2.2.2.1.getD 2 .bad],
 [s86.2.2.2.2.2.2.2.2.2.2.2.2.2.2.2.2.2.1.getD 0 .bad,
 s86.2.2.2.2.2.2.2.2.2.2.2.2.2.2.2.2.2.1.getD 1 .bad,
 s86.2.2.2.2.2.2.2.2.2.2.2.2.2.2.2.2.2.1.getD 2 .bad],
 [s86.2.2.2.2.2.2.2.2.2.2.2.2.2.2.2.2.2.2.1.getD 0 .bad,
 s86.2.2.2.2.2.2.2.2.2.2.2.2.2.2.2.2.2.2.1.getD 1 .bad,
 s86.2.2.2.2.2.2.2.2.2.2.2.2.2.2.2.2.2.2.1.getD 2 .bad,
 s86.2.2.2.2.2.2.2.2.2.2.2.2.2.2.2.2.2.2.1.getD 3 .bad,
 s86.2.2.2.2.2.2.2.2.2.2.2.2.2.2.2.2.2.2.1.getD 4 .bad,
 s86.2.2.2.2.2.2.2.2.2.2.2.2.2.2.2.2.2.2.1.getD 5 .bad,
 s86.2.2.2.2.2.2.2.2.2.2.2.2.2.2.2.2.2.2.1.getD 6 .bad,
 s86.2.2.2.2.2.2.2.2.2.2.2.2.2.2.2.2.2.2.1.getD 7 .bad,
 s86.2.2.2.2.2.2.2.2.2.2.2.2.2.2.2.2.2.2.1.getD 8 .bad,
 s86.2.2.2.2.2.2.2.2.2.2.2.2.2.2.2.2.2.2.1.getD 9 .bad,
 s86.2.2.2.2.2.2.2.2.2.2.2.2.2.2.2.2.2.2.1.getD 10 .bad,
 s86.2.2.2.2.2.2.2.2.2.2.2.2.2.2.2.2.2.2.1.getD 11 .bad,
 s86.2.2.2.2.2.2.2.2.2.2.2.2.2.2.2.2.2.2.1.getD 12 .bad,
 s86.2.2.2.2.2.2.2.2.2.2.2.2.2.2.2.2.2.2.1.getD 13 .bad],
 [s86.2.2.2.2.2.2.2.2.2.2.2.2.2.2.2.2.2.2.2.1.getD 0 .bad,
 s86.2.2.2.2.2.2.2.2.2.2.2.2.2.2.2.2.2.2.2.1.getD 1 .bad,
 s86.2.2.2.2.2.2.2.2.2.2.2.2.2.2.2.2.2.2.2.1.getD 2 .bad],
 [s86.2.2.2.2.2.2.2.2.2.2.2.2.2.2.2.2.2.2.2.2.1.getD 0 .bad,
 s86.2.2.2.2.2.2.2.2.2.2.2.2.2.2.2.2.2.2.2.2.1.getD 1 .bad,
 s86.2.2.2.2.2.2.2.2.2.2.2.2.2.2.2.2.2.2.2.2.1.getD 2 .bad],
 s86.2.2.2.2.2.2.2.2.2.2.2.2.2.2.2.2.2.2.2.2.2.1, ())
def lint_Warnings_L2 (L : Lps) : (PV × PV × Int × Int × List PV × List PV × List PV × List PV × List PV × List PV × List PV × List PV × Unit) → (PV × PV × Int × Int × List PV × List PV × List PV × List PV × List PV × List PV × List PV × List PV × Unit → Option PV) → Option PV := fun s116 rec117 =>
 if decide (s116.2.2.2.1 < s116.2.2.1) = true then
 mapCase 3 (cell s116.1 0)
 ((Ab.asInt .i64 (cell s116.2.1 0)).bind fun n118 =>
 (bif (↑s116.2.2.2.2.2.2.2.2.2.2.2.1.length : Int) == 0 then some true
 else
 if
 inRange (IntKind.i64.wrap ((↑s116.2.2.2.2.2.2.2.2.2.2.2.1.length : Int) - 1))
 s116.2.2.2.2.2.2.2.2.2.2.2.1.length then
 s116.2.2.2.2.2.2.2.2.2.2.2.1[(IntKind.i64.wrap
 ((↑s116.2.2.2.2.2.2.2.2.2.2.2.1.length : Int) - 1)).toNat]?.bind
 fun e119 =>
 if
 chk
 (Kd.int IntKind.i64 ::
 [].append (Kd.int IntKind.i64 :: [].append (Kd.int IntKind.i64 :: [].append [])))
 [cell e119 0, cell e119 1, cell e119 2] =
 true ∧
 chk
 (Kd.int IntKind.i64 ::
 [].append (Kd.int IntKind.i64 :: [].append (Kd.int IntKind.i64 :: [].append [])))
 [PV.int .i64 n118, PV.int .i64 s116.2.2.2.1, PV.int .i64 0] =
 true then
 some
 !peqL [cell e119 0, cell e119 1, cell e119 2]
 [PV.int .i64 n118, PV.int .i64 s116.2.2.2.1, PV.int .i64 0]
 else none
 else none).bind
 fun r120 =>
 if r120 = true then
 if
 (s116.2.2.2.2.2.2.2.2.2.2.2.1 ++
 [PV.agg
 [PV.int .i64 n118, PV.int .i64 s116.2.2.2.1,
 PV.int .i64 0]]).length *
 24 ≤
 roomBound ∧
 0 < 24 then
 rec117
 (PV.agg [cell s116.1 0], PV.agg [cell s116.2.1 0], s116.2.2.1,
 IntKind.i64.wrap (s116.2.2.2.1 + 1),
 [s116.2.2.2.2.1.getD 0 .bad, s116.2.2.2.2.1.getD 1 .bad,
 s116.2.2.2.2.1.getD 2 .bad],
 [s116.2.2.2.2.2.1.getD 0 .bad, s116.2.2.2.2.2.1.getD 1 .bad,
 s116.2.2.2.2.2.1.getD 2 .bad],
 [s116.2.2.2.2.2.2.1.getD 0 .bad, s116.2.2.2.2.2.2.1.getD 1 .bad,
 s116.2.2.2.2.2.2.1.getD 2 .bad],
 [s116.2.2.2.2.2.2.2.1.getD 0 .bad, s116.2.2.2.2.2.2.2.1.getD 1 .bad,
 s116.2.2.2.2.2.2.2.1.getD 2 .bad],
 [s116.2.2.2.2.2.2.2.2.1.getD 0 .bad,
 s116.2.2.2.2.2.2.2.2.1.getD 1 .bad,
 s116.2.2.2.2.2.2.2.2.1.getD 2 .bad,
 s116.2.2.2.2.2.2.2.2.1.getD 3 .bad,
 s116.2.2.2.2.2.2.2.2.1.getD 4 .bad,
 s116.2.2.2.2.2.2.2.2.1.getD 5 .bad,
 s116.2.2.2.2.2.2.2.2.1.getD 6 .bad,
 s116.2.2.2.2.2.2.2.2.1.getD 7 .bad,
 s116.2.2.2.2.2.2.2.2.1.getD 8 .bad,
 s116.2.2.2.2.2.2.2.2.1.getD 9 .bad,
 s116.2.2.2.2.2.2.2.2.1.getD 10 .bad,
 s116.2.2.2.2.2.2.2.2.1.getD 11 .bad,
 s116.2.2.2.2.2.2.2.2.1.getD 12 .bad,
 s116.2.2.2.2.2.2.2.2.1.getD 13 .bad],
 [s116.2.2.2.2.2.2.2.2.2.1.getD 0 .bad,
 s116.2.2.2.2.2.2.2.2.2.1.getD 1 .bad,
 s116.2.2.2.2.2.2.2.2.2.1.getD 2 .bad],
 [s116.2.2.2.2.2.2.2.2.2.2.1.getD 0 .bad,
 s116.2.2.2.2.2.2.2.2.2.2.1.getD 1 .bad,
 s116.2.2.2.2.2.2.2.2.2.2.1.getD 2 .bad],
 s116.2.2.2.2.2.2.2.2.2.2.2.1 ++
 [PV.agg [PV.int .i64 n118, PV.int .i64 s116.2.2.2.1, PV.int .i64 0]],
 ())
 else none
 else
 rec117
 (PV.agg [cell s116.1 0], PV.agg [cell s116.2.1 0], s116.2.2.1,
 IntKind.i64.wrap (s116.2.2.2.1 + 1),
 [s116.2.2.2.2.1.getD 0 .bad, s116.2.2.2.2.1.getD 1 .bad,
 s116.2.2.2.2.1.getD 2 .bad],
 [s116.2.2.2.2.2.1.getD 0 .bad, s116.2.2.2.2.2.1.getD 1 .bad,
 s116.2.2.2.2.2.1.getD 2 .bad],
 [s116.2.2.2.2.2.2.1.getD 0 .bad, s116.2.2.2.2.2.2.1.getD 1 .bad,
 s116.2.2.2.2.2.2.1.getD 2 .bad],
 [s116.2.2.2.2.2.2.2.1.getD 0 .bad, s116.2.2.2.2.2.2.2.1.getD 1 .bad,
 s116.2.2.2.2.2.2.2.1.getD 2 .bad],
 [s116.2.2.2.2.2.2.2.2.1.getD 0 .bad,
 s116.2.2.2.2.2.2.2.2.1.getD 1 .bad,
 s116.2.2.2.2.2.2.2.2.1.getD 2 .bad,
 s116.2.2.2.2.2.2.2.2.1.getD 3 .bad,
 s116.2.2.2.2.2.2.2.2.1.getD 4 .bad,
 s116.2.2.2.2.2.2.2.2.1.getD 5 .bad,
 s116.2.2.2.2.2.2.2.2.1.getD 6 .bad,
 s116.2.2.2.2.2.2.2.2.1.getD 7 .bad,
 s116.2.2.2.2.2.2.2.2.1.getD 8 .bad,
 s116.2.2.2.2.2.2.2.2.1.getD 9 .bad,
 s116.2.2.2.2.2.2.2.2.1.getD 10 .bad,
 s116.2.2.2.2.2.2.2.2.1.getD 11 .bad,
 s116.2.2.2.2.2.2.2.2.1.getD 12 .bad,
 s116.2.2.2.2.2.2.2.2.1.getD 13 .bad],
 [s116.2.2.2.2.2.2.2.2.2.1.getD 0 .bad,
 s116.2.2.2.2.2.2.2.2.2.1.getD 1 .bad,
 s116.2.2.2.2.2.2.2.2.2.1.getD 2 .bad],
 [s116.2.2.2.2.2.2.2.2.2.2.1.getD 0 .bad,
 s116.2.2.2.2.2.2.2.2.2.2.1.getD 1 .bad,
 s116.2.2.2.2.2.2.2.2.2.2.1.getD 2 .bad],
 s116.2.2.2.2.2.2.2.2.2.2.2.1, ()))
 fun ks121 vs122 =>
 (Ab.asBool (mlook (PV.int .i64 s116.2.2.2.1) (PV.bool false) (ks121.zip vs122))).bind fun b123 =>
 bif sameB true !b123 then
 (Ab.asInt .i64 (cell s116.2.1 0)).bind fun n124 =>
 (bif (↑s116.2.2.2.2.2.2.2.2.2.2.2.1.length : Int) == 0 then some true
 else
 if
 inRange
 (IntKind.i64.wrap ((↑s116.2.2.2.2.2.2.2.2.2.2.2.1.length : Int) - 1))
 s116.2.2.2.2.2.2.2.2.2.2.2.1.length then
 s116.2.2.2.2.2.2.2.2.2.2.2.1[(IntKind.i64.wrap
 ((↑s116.2.2.2.2.2.2.2.2.2.2.2.1.length : Int) - 1)).toNat]?.bind
 fun e125 =>
 if
 chk
 (Kd.int IntKind.i64 ::
 [].append (Kd.int IntKind.i64 :: [].append (Kd.int IntKind.i64 :: [].append [])))
 [cell e125 0, cell e125 1, cell e125 2] =
 true ∧
 chk
 (Kd.int IntKind.i64 ::
 [].append (Kd.int IntKind.i64 :: [].append (Kd.int IntKind.i64 :: [].append [])))
 [PV.int .i64 n124, PV.int .i64 s116.2.2.2.1, PV.int .i64 0] =
 true then
 some
 !peqL [cell e125 0, cell e125 1, cell e125 2]
 [PV.int .i64 n124, PV.int .i64 s116.2.2.2.1, PV.int .i64 0]
 else none
 else none).bind
 fun r126 =>
 if r126 = true then
 if
 (s116.2.2.2.2.2.2.2.2.2.2.2.1 ++
 [PV.agg
 [PV.int .i64 n124, PV.int .i64 s116.2.2.2.1,
 PV.int .i64 0]]).length *
 24 ≤
 roomBound ∧
 0 < 24 then
 rec117
 (PV.agg [cell s116.1 0], PV.agg [cell s116.2.1 0], s116.2.2.1,
 IntKind.i64.wrap (s116.2.2.2.1 + 1),
 [s116.2.2.2.2.1.getD 0 .bad, s116.2.2.2.2.1.getD 1 .bad,
 s116.2.2.2.2.1.getD 2 .bad],
 [s116.2.2.2.2.2.1.getD 0 .bad, s116.2.2.2.2.2.1.getD 1 .bad,
 s116.2.2.2.2.2.1.getD 2 .bad],
 [s116.2.2.2.2.2.2.1.getD 0 .bad, s116.2.2.2.2.2.2.1.getD 1 .bad,
 s116.2.2.2.2.2.2.1.getD 2 .bad],
 [s116.2.2.2.2.2.2.2.1.getD 0 .bad,
 s116.2.2.2.2.2.2.2.1.getD 1 .bad,
 s116.2.2.2.2.2.2.2.1.getD 2 .bad],
 [s116.2.2.2.2.2.2.2.2.1.getD 0 .bad,
 s116.2.2.2.2.2.2.2.2.1.getD 1 .bad,
 s116.2.2.2.2.2.2.2.2.1.getD 2 .bad,
 s116.2.2.2.2.2.2.2.2.1.getD 3 .bad,
 s116.2.2.2.2.2.2.2.2.1.getD 4 .bad,
 s116.2.2.2.2.2.2.2.2.1.getD 5 .bad,
 s116.2.2.2.2.2.2.2.2.1.getD 6 .bad,
 s116.2.2.2.2.2.2.2.2.1.getD 7 .bad,
 s116.2.2.2.2.2.2.2.2.1.getD 8 .bad,
 s116.2.2.2.2.2.2.2.2.1.getD 9 .bad,
 s116.2.2.2.2.2.2.2.2.1.getD 10 .bad,
 s116.2.2.2.2.2.2.2.2.1.getD 11 .bad,
 s116.2.2.2.2.2.2.2.2.1.getD 12 .bad,
 s116.2.2.2.2.2.2.2.2.1.getD 13 .bad],
 [s116.2.2.2.2.2.2.2.2.2.1.getD 0 .bad,
 s116.2.2.2.2.2.2.2.2.2.1.getD 1 .bad,
 s116.2.2.2.2.2.2.2.2.2.1.getD 2 .bad],
 [s116.2.2.2.2.2.2.2.2.2.2.1.getD 0 .bad,
 s116.2.2.2.2.2.2.2.2.2.2.1.getD 1 .bad,
 s116.2.2.2.2.2.2.2.2.2.2.1.getD 2 .bad],
 s116.2.2.2.2.2.2.2.2.2.2.2.1 ++
 [PV.agg [PV.int .i64 n124, PV.int .i64 s116.2.2.2.1, PV.int .i64 0]],
 ())
 else none
 else
 rec117
 (PV.agg [cell s116.1 0], PV.agg [cell s116.2.1 0], s116.2.2.1,
 IntKind.i64.wrap (s116.2.2.2.1 + 1),
 [s116.2.2.2.2.1.getD 0 .bad, s116.2.2.2.2.1.getD 1 .bad,
 s116.2.2.2.2.1.getD 2 .bad],
 [s116.2.2.2.2.2.1.getD 0 .bad, s116.2.2.2.2.2.1.getD 1 .bad,
 s116.2.2.2.2.2.1.getD 2 .bad],
 [s116.2.2.2.2.2.2.1.getD 0 .bad, s116.2.2.2.2.2.2.1.getD 1 .bad,
 s116.2.2.2.2.2.2.1.getD 2 .bad],
 [s116.2.2.2.2.2.2.2.1.getD 0 .bad,
 s116.2.2.2.2.2.2.2.1.getD 1 .bad,
 s116.2.2.2.2.2.2.2.1.getD 2 .bad],
 [s116.2.2.2.2.2.2.2.2.1.getD 0 .bad,
 s116.2.2.2.2.2.2.2.2.1.getD 1 .bad,
 s116.2.2.2.2.2.2.2.2.1.getD 2 .bad,
 s116.2.2.2.2.2.2.2.2.1.getD 3 .bad,
 s116.2.2.2.2.2.2.2.2.1.getD 4 .bad,
 s116.2.2.2.2.2.2.2.2.1.getD 5 .bad,
 s116.2.2.2.2.2.2.2.2.1.getD 6 .bad,
 s116.2.2.2.2.2.2.2.2.1.getD 7 .bad,
 s116.2.2.2.2.2.2.2.2.1.getD 8 .bad,
 s116.2.2.2.2.2.2.2.2.1.getD 9 .bad,
 s116.2.2.2.2.2.2.2.2.1.getD 10 .bad,
 s116.2.2.2.2.2.2.2.2.1.getD 11 .bad,
 s116.2.2.2.2.2.2.2.2.1.getD 12 .bad,
 s116.2.2.2.2.2.2.2.2.1.getD 13 .bad],
 [s116.2.2.2.2.2.2.2.2.2.1.getD 0 .bad,
 s116.2.2.2.2.2.2.2.2.2.1.getD 1 .bad,
 s116.2.2.2.2.2.2.2.2.2.1.getD 2 .bad],
 [s116.2.2.2.2.2.2.2.2.2.2.1.getD 0 .bad,
 s116.2.2.2.2.2.2.2.2.2.2.1.getD 1 .bad,
 s116.2.2.2.2.2.2.2.2.2.2.1.getD 2 .bad],
 s116.2.2.2.2.2.2.2.2.2.2.2.1, ())
 else
 rec117
 (PV.agg [cell s116.1 0], PV.agg [cell s116.2.1 0], s116.2.2.1,
 IntKind.i64.wrap (s116.2.2.2.1 + 1),
 [s116.2.2.2.2.1.getD 0 .bad, s116.2.2.2.2.1.getD 1 .bad,
 s116.2.2.2.2.1.getD 2 .bad],
 [s116.2.2.2.2.2.1.getD 0 .bad, s116.2.2.2.2.2.1.getD 1 .bad,
 s116.2.2.2.2.2.1.getD 2 .bad],
 [s116.2.2.2.2.2.2.1.getD 0 .bad, s116.2.2.2.2.2.2.1.getD 1 .bad,
 s116.2.2.2.2.2.2.1.getD 2 .bad],
 [s116.2.2.2.2.2.2.2.1.getD 0 .bad, s116.2.2.2.2.2.2.2.1.getD 1 .bad,
 s116.2.2.2.2.2.2.2.1.getD 2 .bad],
 [s116.2.2.2.2.2.2.2.2.1.getD 0 .bad,
 s116.2.2.2.2.2.2.2.2.1.getD 1 .bad,
 s116.2.2.2.2.2.2.2.2.1.getD 2 .bad,
 s116.2.2.2.2.2.2.2.2.1.getD 3 .bad,
 s116.2.2.2.2.2.2.2.2.1.getD 4 .bad,
 s116.2.2.2.2.2.2.2.2.1.getD 5 .bad,
 s116.2.2.2.2.2.2.2.2.1.getD 6 .bad,
 s116.2.2.2.2.2.2.2.2.1.getD 7 .bad,
 s116.2.2.2.2.2.2.2.2.1.getD 8 .bad,
 s116.2.2.2.2.2.2.2.2.1.getD 9 .bad,
 s116.2.2.2.2.2.2.2.2.1.getD 10 .bad,
 s116.2.2.2.2.2.2.2.2.1.getD 11 .bad,
 s116.2.2.2.2.2.2.2.2.1.getD 12 .bad,
 s116.2.2.2.2.2.2.2.2.1.getD 13 .bad],
 [s116.2.2.2.2.2.2.2.2.2.1.getD 0 .bad,
 s116.2.2.2.2.2.2.2.2.2.1.getD 1 .bad,
 s116.2.2.2.2.2.2.2.2.2.1.getD 2 .bad],
 [s116.2.2.2.2.2.2.2.2.2.2.1.getD 0 .bad,
 s116.2.2.2.2.2.2.2.2.2.2.1.getD 1 .bad,
 s116.2.2.2.2.2.2.2.2.2.2.1.getD 2 .bad],
 s116.2.2.2.2.2.2.2.2.2.2.2.1, ())
else some (PV.rs 3 s116.2.2.2.2.2.2.2.2.2.2.2.1)
def lint_Warnings_L3 (L : Lps) : (PV × PV × Int × Int × List PV × List PV × List PV × List PV × List PV × List PV × List PV × List PV × Unit) → (PV × PV × Int × Int × List PV × List PV × List PV × List PV × List PV × List PV × List PV × List PV × Unit → Option PV) → Option PV := fun s104 rec105 =>
 if decide (s104.2.2.2.1 < s104.2.2.1) = true then
 mapCase 3 (cell s104.1 0)
 ((Ab.asInt .i64 (cell s104.2.1 0)).bind fun n106 =>
 (bif (↑s104.2.2.2.2.2.2.2.2.2.2.2.1.length : Int) == 0 then some true
 else
 if
 inRange (IntKind.i64.wrap ((↑s104.2.2.2.2.2.2.2.2.2.2.2.1.length : Int) - 1))
 s104.2.2.2.2.2.2.2.2.2.2.2.1.length then
 s104.2.2.2.2.2.2.2.2.2.2.2.1[(IntKind.i64.wrap
 ((↑s104.2.2.2.2.2.2.2.2.2.2.2.1.length : Int) - 1)).toNat]?.bind
 fun e107 =>
 if
 chk
 (Kd.int IntKind.i64 ::
 [].append (Kd.int IntKind.i64 :: [].append (Kd.int IntKind.i64 :: [].append [])))
 [cell e107 0, cell e107 1, cell e107 2] =
 true ∧
 chk
 (Kd.int IntKind.i64 ::
 [].append (Kd.int IntKind.i64 :: [].append (Kd.int IntKind.i64 :: [].append [])))
 [PV.int .i64 n106, PV.int .i64 s104.2.2.2.1, PV.int .i64 0] =
 true then
 some
 !peqL [cell e107 0, cell e107 1, cell e107 2]
 [PV.int .i64 n106, PV.int .i64 s104.2.2.2.1, PV.int .i64 0]
 else none
 else none).bind
 fun r108 =>
 if r108 = true then
 if
 (s104.2.2.2.2.2.2.2.2.2.2.2.1 ++
 [PV.agg
 [PV.int .i64 n106, PV.int .i64 s104.2.2.2.1,
 PV.int .i64 0]]).length *
 24 ≤
 roomBound ∧
 0 < 24 then
 rec105
 (PV.agg [cell s104.1 0], PV.agg [cell s104.2.1 0], s104.2.2.1,
 IntKind.i64.wrap (s104.2.2.2.1 + 1),
 [s104.2.2.2.2.1.getD 0 .bad, s104.2.2.2.2.1.getD 1 .bad,
 s104.2.2.2.2.1.getD 2 .bad],
 [s104.2.2.2.2.2.1.getD 0 .bad, s104.2.2.2.2.2.1.getD 1 .bad,
 s104.2.2.2.2.2.1.getD 2 .bad],
 [s104.2.2.2.2.2.2.1.getD 0 .bad, s104.2.2.2.2.2.2.1.getD 1 .bad,
 s104.2.2.2.2.2.2.1.getD 2 .bad],
 [s104.2.2.2.2.2.2.2.1.getD 0 .bad, s104.2.2.2.2.2.2.2.1.getD 1 .bad,
 s104.2.2.2.2.2.2.2.1.getD 2 .bad],
 [s104.2.2.2.2.2.2.2.2.1.getD 0 .bad,
 s104.2.2.2.2.2.2.2.2.1.getD 1 .bad,
 s104.2.2.2.2.2.2.2.2.1.getD 2 .bad,
 s104.2.2.2.2.2.2.2.2.1.getD 3 .bad,
 s104.2.2.2.2.2.2.2.2.1.getD 4 .bad,
 s104.2.2.2.2.2.2.2.2.1.getD 5 .bad,
 s104.2.2.2.2.2.2.2.2.1.getD 6 .bad,
 s104.2.2.2.2.2.2.2.2.1.getD 7 .bad,
 s104.2.2.2.2.2.2.2.2.1.getD 8 .bad,
 s104.2.2.2.2.2.2.2.2.1.getD 9 .bad,
 s104.2.2.2.2.2.2.2.2.1.getD 10 .bad,
 s104.2.2.2.2.2.2.2.2.1.getD 11 .bad,
 s104.2.2.2.2.2.2.2.2.1.getD 12 .bad,
 s104.2.2.2.2.2.2.2.2.1.getD 13 .bad],
 [s104.2.2.2.2.2.2.2.2.2.1.getD 0 .bad,
 s104.2.2.2.2.2.2.2.2.2.1.getD 1 .bad,
 s104.2.2.2.2.2.2.2.2.2.1.getD 2 .bad],
 [s104.2.2.2.2.2.2.2.2.2.2.1.getD 0 .bad,
 s104.2.2.2.2.2.2.2.2.2.2.1.getD 1 .bad,
 s104.2.2.2.2.2.2.2.2.2.2.1.getD 2 .bad],
 s104.2.2.2.2.2.2.2.2.2.2.2.1 ++
 [PV.agg [PV.int .i64 n106, PV.int .i64 s104.2.2.2.1, PV.int .i64 0]],
 ())
 else none
 else
 rec105
 (PV.agg [cell s104.1 0], PV.agg [cell s104.2.1 0], s104.2.2.1,
 IntKind.i64.wrap (s104.2.2.2.1 + 1),
 [s104.2.2.2.2.1.getD 0 .bad, s104.2.2.2.2.1.getD 1 .bad,
 s104.2.2.2.2.1.getD 2 .bad],
 [s104.2.2.2.2.2.1.getD 0 .bad, s104.2.2.2.2.2.1.getD 1 .bad,
 s104.2.2.2.2.2.1.getD 2 .bad],
 [s104.2.2.2.2.2.2.1.getD 0 .bad, s104.2.2.2.2.2.2.1.getD 1 .bad,
 s104.2.2.2.2.2.2.1.getD 2 .bad],
 [s104.2.2.2.2.2.2.2.1.getD 0 .bad, s104.2.2.2.2.2.2.2.1.getD 1 .bad,
 s104.2.2.2.2.2.2.2.1.getD 2 .bad],
 [s104.2.2.2.2.2.2.2.2.1.getD 0 .bad,
 s104.2.2.2.2.2.2.2.2.1.getD 1 .bad,
 s104.2.2.2.2.2.2.2.2.1.getD 2 .bad,
 s104.2.2.2.2.2.2.2.2.1.getD 3 .bad,
 s104.2.2.2.2.2.2.2.2.1.getD 4 .bad,
 s104.2.2.2.2.2.2.2.2.1.getD 5 .bad,
 s104.2.2.2.2.2.2.2.2.1.getD 6 .bad,
 s104.2.2.2.2.2.2.2.2.1.getD 7 .bad,
 s104.2.2.2.2.2.2.2.2.1.getD 8 .bad,
 s104.2.2.2.2.2.2.2.2.1.getD 9 .bad,
 s104.2.2.2.2.2.2.2.2.1.getD 10 .bad,
 s104.2.2.2.2.2.2.2.2.1.getD 11 .bad,
 s104.2.2.2.2.2.2.2.2.1.getD 12 .bad,
 s104.2.2.2.2.2.2.2.2.1.getD 13 .bad],
 [s104.2.2.2.2.2.2.2.2.2.1.getD 0 .bad,
 s104.2.2.2.2.2.2.2.2.2.1.getD 1 .bad,
 s104.2.2.2.2.2.2.2.2.2.1.getD 2 .bad],
 [s104.2.2.2.2.2.2.2.2.2.2.1.getD 0 .bad,
 s104.2.2.2.2.2.2.2.2.2.2.1.getD 1 .bad,
 s104.2.2.2.2.2.2.2.2.2.2.1.getD 2 .bad],
 s104.2.2.2.2.2.2.2.2.2.2.2.1, ()))
 fun ks109 vs110 =>
 (Ab.asBool (mlook (PV.int .i64 s104.2.2.2.1) (PV.bool false) (ks109.zip vs110))).bind fun b111 =>
 bif sameB true !b111 then
 (Ab.asInt .i64 (cell s104.2.1 0)).bind fun n112 =>
 (bif (↑s104.2.2.2.2.2.2.2.2.2.2.2.1.length : Int) == 0 then some true
 else
 if
 inRange
 (IntKind.i64.wrap ((↑s104.2.2.2.2.2.2.2.2.2.2.2.1.length : Int) - 1))
 s104.2.2.2.2.2.2.2.2.2.2.2.1.length then
 s104.2.2.2.2.2.2.2.2.2.2.2.1[(IntKind.i64.wrap
 ((↑s104.2.2.2.2.2.2.2.2.2.2.2.1.length : Int) - 1)).toNat]?.bind
 fun e113 =>
 if
 chk
 (Kd.int IntKind.i64 ::
 [].append (Kd.int IntKind.i64 :: [].append (Kd.int IntKind.i64 :: [].append [])))
 [cell e113 0, cell e113 1, cell e113 2] =
 true ∧
 chk
 (Kd.int IntKind.i64 ::
 [].append (Kd.int IntKind.i64 :: [].append (Kd.int IntKind.i64 :: [].append [])))
 [PV.int .i64 n112, PV.int .i64 s104.2.2.2.1, PV.int .i64 0] =
 true then
 some
 !peqL [cell e113 0, cell e113 1, cell e113 2]
 [PV.int .i64 n112, PV.int .i64 s104.2.2.2.1, PV.int .i64 0]
 else none
 else none).bind
 fun r114 =>
 if r114 = true then
 if
 (s104.2.2.2.2.2.2.2.2.2.2.2.1 ++
 [PV.agg
 [PV.int .i64 n112, PV.int .i64 s104.2.2.2.1,
 PV.int .i64 0]]).length *
 24 ≤
 roomBound ∧
 0 < 24 then
 rec105
 (PV.agg [cell s104.1 0], PV.agg [cell s104.2.1 0], s104.2.2.1,
 IntKind.i64.wrap (s104.2.2.2.1 + 1),
 [s104.2.2.2.2.1.getD 0 .bad, s104.2.2.2.2.1.getD 1 .bad,
 s104.2.2.2.2.1.getD 2 .bad],
 [s104.2.2.2.2.2.1.getD 0 .bad, s104.2.2.2.2.2.1.getD 1 .bad,
 s104.2.2.2.2.2.1.getD 2 .bad],
 [s104.2.2.2.2.2.2.1.getD 0 .bad, s104.2.2.2.2.2.2.1.getD 1 .bad,
 s104.2.2.2.2.2.2.1.getD 2 .bad],
 [s104.2.2.2.2.2.2.2.1.getD 0 .bad,
 s104.2.2.2.2.2.2.2.1.getD 1 .bad,
 s104.2.2.2.2.2.2.2.1.getD 2 .bad],
 [s104.2.2.2.2.2.2.2.2.1.getD 0 .bad,
 s104.2.2.2.2.2.2.2.2.1.getD 1 .bad,
 s104.2.2.2.2.2.2.2.2.1.getD 2 .bad,
 s104.2.2.2.2.2.2.2.2.1.getD 3 .bad,
 s104.2.2.2.2.2.2.2.2.1.getD 4 .bad,
 s104.2.2.2.2.2.2.2.2.1.getD 5 .bad,
 s104.2.2.2.2.2.2.2.2.1.getD 6 .bad,
 s104.2.2.2.2.2.2.2.2.1.getD 7 .bad,
 s104.2.2.2.2.2.2.2.2.1.getD 8 .bad,
 s104.2.2.2.2.2.2.2.2.1.getD 9 .bad,
 s104.2.2.2.2.2.2.2.2.1.getD 10 .bad,
 s104.2.2.2.2.2.2.2.2.1.getD 11 .bad,
 s104.2.2.2.2.2.2.2.2.1.getD 12 .bad,
 s104.2.2.2.2.2.2.2.2.1.getD 13 .bad],
 [s104.2.2.2.2.2.2.2.2.2.1.getD 0 .bad,
 s104.2.2.2.2.2.2.2.2.2.1.getD 1 .bad,
 s104.2.2.2.2.2.2.2.2.2.1.getD 2 .bad],
 [s104.2.2.2.2.2.2.2.2.2.2.1.getD 0 .bad,
 s104.2.2.2.2.2.2.2.2.2.2.1.getD 1 .bad,
 s104.2.2.2.2.2.2.2.2.2.2.1.getD 2 .bad],
 s104.2.2.2.2.2.2.2.2.2.2.2.1 ++
 [PV.agg [PV.int .i64 n112, PV.int .i64 s104.2.2.2.1, PV.int .i64 0]],
 ())
 else none
 else
 rec105
 (PV.agg [cell s104.1 0], PV.agg [cell s104.2.1 0], s104.2.2.1,
 IntKind.i64.wrap (s104.2.2.2.1 + 1),
 [s104.2.2.2.2.1.getD 0 .bad, s104.2.2.2.2.1.getD 1 .bad,
 s104.2.2.2.2.1.getD 2 .bad],
 [s104.2.2.2.2.2.1.getD 0 .bad, s104.2.2.2.2.2.1.getD 1 .bad,
 s104.2.2.2.2.2.1.getD 2 .bad],
 [s104.2.2.2.2.2.2.1.getD 0 .bad, s104.2.2.2.2.2.2.1.getD 1 .bad,
 s104.2.2.2.2.2.2.1.getD 2 .bad],
 [s104.2.2.2.2.2.2.2.1.getD 0 .bad,
 s104.2.2.2.2.2.2.2.1.getD 1 .bad,
 s104.2.2.2.2.2.2.2.1.getD 2 .bad],
 [s104.2.2.2.2.2.2.2.2.1.getD 0 .bad,
 s104.2.2.2.2.2.2.2.2.1.getD 1 .bad,
 s104.2.2.2.2.2.2.2.2.1.getD 2 .bad,
 s104.2.2.2.2.2.2.2.2.1.getD 3 .bad,
 s104.2.2.2.2.2.2.2.2.1.getD 4 .bad,
 s104.2.2.2.2.2.2.2.2.1.getD 5 .bad,
 s104.2.2.2.2.2.2.2.2.1.getD 6 .bad,
 s104.2.2.2.2.2.2.2.2.1.getD 7 .bad,
 s104.2.2.2.2.2.2.2.2.1.getD 8 .bad,
 s104.2.2.2.2.2.2.2.2.1.getD 9 .bad,
 s104.2.2.2.2.2.2.2.2.1.getD 10 .bad,
 s104.2.2.2.2.2.2.2.2.1.getD 11 .bad,
 s104.2.2.2.2.2.2.2.2.1.getD 12 .bad,
 s104.2.2.2.2.2.2.2.2.1.getD 13 .bad],
 [s104.2.2.2.2.2.2.2.2.2.1.getD 0 .bad,
 s104.2.2.2.2.2.2.2.2.2.1.getD 1 .bad,
 s104.2.2.2.2.2.2.2.2.2.1.getD 2 .bad],
 [s104.2.2.2.2.2.2.2.2.2.2.1.getD 0 .bad,
 s104.2.2.2.2.2.2.2.2.2.2.1.getD 1 .bad,
 s104.2.2.2.2.2.2.2.2.2.2.1.getD 2 .bad],
 s104.2.2.2.2.2.2.2.2.2.2.2.1, ())
 else
 rec105
 (PV.agg [cell s104.1 0], PV.agg [cell s104.2.1 0], s104.2.2.1,
 IntKind.i64.wrap (s104.2.2.2.1 + 1),
 [s104.2.2.2.2.1.getD 0 .bad, s104.2.2.2.2.1.getD 1 .bad,
 s104.2.2.2.2.1.getD 2 .bad],
 [s104.2.2.2.2.2.1.getD 0 .bad, s104.2.2.2.2.2.1.getD 1 .bad,
 s104.2.2.2.2.2.1.getD 2 .bad],
 [s104.2.2.2.2.2.2.1.getD 0 .bad, s104.2.2.2.2.2.2.1.getD 1 .bad,
 s104.2.2.2.2.2.2.1.getD 2 .bad],
 [s104.2.2.2.2.2.2.2.1.getD 0 .bad, s104.2.2.2.2.2.2.2.1.getD 1 .bad,
 s104.2.2.2.2.2.2.2.1.getD 2 .bad],
 [s104.2.2.2.2.2.2.2.2.1.getD 0 .bad,
 s104.2.2.2.2.2.2.2.2.1.getD 1 .bad,
 s104.2.2.2.2.2.2.2.2.1.getD 2 .bad,
 s104.2.2.2.2.2.2.2.2.1.getD 3 .bad,
 s104.2.2.2.2.2.2.2.2.1.getD 4 .bad,
 s104.2.2.2.2.2.2.2.2.1.getD 5 .bad,
 s104.2.2.2.2.2.2.2.2.1.getD 6 .bad,
 s104.2.2.2.2.2.2.2.2.1.getD 7 .bad,
 s104.2.2.2.2.2.2.2.2.1.getD 8 .bad,
 s104.2.2.2.2.2.2.2.2.1.getD 9 .bad,
 s104.2.2.2.2.2.2.2.2.1.getD 10 .bad,
 s104.2.2.2.2.2.2.2.2.1.getD 11 .bad,
 s104.2.2.2.2.2.2.2.2.1.getD 12 .bad,
 s104.2.2.2.2.2.2.2.2.1.getD 13 .bad],
 [s104.2.2.2.2.2.2.2.2.2.1.getD 0 .bad,
 s104.2.2.2.2.2.2.2.2.2.1.getD 1 .bad,
 s104.2.2.2.2.2.2.2.2.2.1.getD 2 .bad],
 [s104.2.2.2.2.2.2.2.2.2.2.1.getD 0 .bad,
 s104.2.2.2.2.2.2.2.2.2.2.1.getD 1 .bad,
 s104.2.2.2.2.2.2.2.2.2.2.1.getD 2 .bad],
 s104.2.2.2.2.2.2.2.2.2.2.2.1, ())
else
 (Ab.asInt .i64 (s104.2.2.2.2.2.2.2.2.2.2.1.getD 0 .bad)).bind fun n115 =>
 L.run (lint_Warnings_L2 L)
 (PV.agg [s104.2.2.2.2.2.2.2.2.2.2.1.getD 1 .bad],
 PV.agg [s104.2.2.2.2.2.2.2.2.2.2.1.getD 2 .bad], n115, 0,
 [s104.2.2.2.2.1.getD 0 .bad, s104.2.2.2.2.1.getD 1 .bad,
 s104.2.2.2.2.1.getD 2 .bad],
 [s104.2.2.2.2.2.1.getD 0 .bad, s104.2.2.2.2.2.1.getD 1 .bad,
 s104.2.2.2.2.2.1.getD 2 .bad],
 [s104.2.2.2.2.2.2.1.getD 0 .bad, s104.2.2.2.2.2.2.1.getD 1 .bad,
 s104.2.2.2.2.2.2.1.getD 2 .bad],
 [s104.2.2.2.2.2.2.2.1.getD 0 .bad, s104.2.2.2.2.2.2.2.1.getD 1 .bad,
 s104.2.2.2.2.2.2.2.1.getD 2 .bad],
 [s104.2.2.2.2.2.2.2.2.1.getD 0 .bad, s104.2.2.2.2.2.2.2.2.1.getD 1 .bad,
 s104.2.2.2.2.2.2.2.2.1.getD 2 .bad,
 s104.2.2.2.2.2.2.2.2.1.getD 3 .bad,
 s104.2.2.2.2.2.2.2.2.1.getD 4 .bad,
 s104.2.2.2.2.2.2.2.2.1.getD 5 .bad,
 s104.2.2.2.2.2.2.2.2.1.getD 6 .bad,
 s104.2.2.2.2.2.2.2.2.1.getD 7 .bad,
 s104.2.2.2.2.2.2.2.2.1.getD 8 .bad,
 s104.2.2.2.2.2.2.2.2.1.getD 9 .bad,
 s104.2.2.2.2.2.2.2.2.1.getD 10 .bad,
 s104.2.2.2.2.2.2.2.2.1.getD 11 .bad,
 s104.2.2.2.2.2.2.2.2.1.getD 12 .bad,
 s104.2.2.2.2.2.2.2.2.1.getD 13 .bad],
 [s104.2.2.2.2.2.2.2.2.2.1.getD 0 .bad,
 s104.2.2.2.2.2.2.2.2.2.1.getD 1 .bad,
 s104.2.2.2.2.2.2.2.2.2.1.getD 2 .bad],
 [s104.2.2.2.2.2.2.2.2.2.2.1.getD 0 .bad,
 s104.2.2.2.2.2.2.2.2.2.2.1.getD 1 .bad,
 s104.2.2.2.2.2.2.2.2.2.2.1.getD 2 .bad],
 s104.2.2.2.2.2.2.2.2.2.2.2.1, ())
def lint_Warnings_L4 (L : Lps) : (PV ×
 List PV × List PV × Int × Int × List PV × List PV × List PV × List PV × List PV × List PV × List PV × List PV × Unit) → (PV ×
 List PV ×
 List PV × Int × Int × List PV × List PV × List PV × List PV × List PV × List PV × List PV × List PV × Unit →
 Option PV) → Option PV := fun s82 rec83 =>
 if decide (s82.2.2.2.2.1 < s82.2.2.2.1) = true then
 (idxP s82.2.2.1 s82.2.2.2.2.1).bind fun p84 =>
 (asSl 5 (cell s82.1 4)).bind fun es85 =>
 L.run (lint_Warnings_L1 L rec83)
 (PV.agg
 [cell s82.1 0, cell s82.1 1, cell s82.1 2, cell s82.1 3, cell s82.1 4, cell s82.1 5,
 cell s82.1 6, cell s82.1 7, cell s82.1 8, cell s82.1 9, cell s82.1 10, cell s82.1 11,
 cell s82.1 12],
 [s82.2.1.getD 0 .bad], s82.2.2.2.2.1, s82.2.2.1, s82.2.2.2.1,
 s82.2.2.2.2.1, es85, (↑es85.length : Int), 0, cell p84 0, cell p84 1, cell p84 2, cell p84 3,
 cell p84 4,
 [s82.2.2.2.2.2.1.getD 0 .bad, s82.2.2.2.2.2.1.getD 1 .bad,
 s82.2.2.2.2.2.1.getD 2 .bad],
 [s82.2.2.2.2.2.2.1.getD 0 .bad, s82.2.2.2.2.2.2.1.getD 1 .bad,
 s82.2.2.2.2.2.2.1.getD 2 .bad],
 [s82.2.2.2.2.2.2.2.1.getD 0 .bad, s82.2.2.2.2.2.2.2.1.getD 1 .bad,
 s82.2.2.2.2.2.2.2.1.getD 2 .bad],
 [s82.2.2.2.2.2.2.2.2.1.getD 0 .bad, s82.2.2.2.2.2.2.2.2.1.getD 1 .bad,
 s82.2.2.2.2.2.2.2.2.1.getD 2 .bad],
 [s82.2.2.2.2.2.2.2.2.2.1.getD 0 .bad,
 s82.2.2.2.2.2.2.2.2.2.1.getD 1 .bad,
 s82.2.2.2.2.2.2.2.2.2.1.getD 2 .bad,
 s82.2.2.2.2.2.2.2.2.2.1.getD 3 .bad,
 s82.2.2.2.2.2.2.2.2.2.1.getD 4 .bad,
 s82.2.2.2.2.2.2.2.2.2.1.getD 5 .bad,
 s82.2.2.2.2.2.2.2.2.2.1.getD 6 .bad,
 s82.2.2.2.2.2.2.2.2.2.1.getD 7 .bad,
 s82.2.2.2.2.2.2.2.2.2.1.getD 8 .bad,
 s82.2.2.2.2.2.2.2.2.2.1.getD 9 .bad,
 s82.2.2.2.2.2.2.2.2.2.1.getD 10 .bad,
 s82.2.2.2.2.2.2.2.2.2.1.getD 11 .bad,
 s82.2.2.2.2.2.2.2.2.2.1.getD 12 .bad,
 s82.2.2.2.2.2.2.2.2.2.1.getD 13 .bad],
 [s82.2.2.2.2.2.2.2.2.2.2.1.getD 0 .bad,
 s82.2.2.2.2.2.2.2.2.2.2.1.getD 1 .bad,
 s82.2.2.2.2.2.2.2.2.2.2.1.getD 2 .bad],
 [s82.2.2.2.2.2.2.2.2.2.2.2.1.getD 0 .bad,
 s82.2.2.2.2.2.2.2.2.2.2.2.1.getD 1 .bad,
 s82.2.2.2.2.2.2.2.2.2.2.2.1.getD 2 .bad],
 s82.2.2.2.2.2.2.2.2.2.2.2.2.1, ())
else
 (Ab.asInt .i64 (s82.2.2.2.2.2.2.2.2.2.2.1.getD 0 .bad)).bind fun n103 =>
 L.run (lint_Warnings_L3 L)
 (PV.agg [s82.2.2.2.2.2.2.2.2.2.2.1.getD 1 .bad],
 PV.agg [s82.2.2.2.2.2.2.2.2.2.2.1.getD 2 .bad], n103, 0,
 [s82.2.2.2.2.2.1.getD 0 .bad, s82.2.2.2.2.2.1.getD 1 .bad,
 s82.2.2.2.2.2.1.getD 2 .bad],
 [s82.2.2.2.2.2.2.1.getD 0 .bad, s82.2.2.2.2.2.2.1.getD 1 .bad,
 s82.2.2.2.2.2.2.1.getD 2 .bad],
 [s82.2.2.2.2.2.2.2.1.getD 0 .bad, s82.2.2.2.2.2.2.2.1.getD 1 .bad,
 s82.2.2.2.2.2.2.2.1.getD 2 .bad],
 [s82.2.2.2.2.2.2.2.2.1.getD 0 .bad, s82.2.2.2.2.2.2.2.2.1.getD 1 .bad,
 s82.2.2.2.2.2.2.2.2.1.getD 2 .bad],
 [s82.2.2.2.2.2.2.2.2.2.1.getD 0 .bad,
 s82.2.2.2.2.2.2.2.2.2.1.getD 1 .bad,
 s82.2.2.2.2.2.2.2.2.2.1.getD 2 .bad,
 s82.2.2.2.2.2.2.2.2.2.1.getD 3 .bad,
 s82.2.2.2.2.2.2.2.2.2.1.getD 4 .bad,
 s82.2.2.2.2.2.2.2.2.2.1.getD 5 .bad,
 s82.2.2.2.2.2.2.2.2.2.1.getD 6 .bad,
 s82.2.2.2.2.2.2.2.2.2.1.getD 7 .bad,
 s82.2.2.2.2.2.2.2.2.2.1.getD 8 .bad,
 s82.2.2.2.2.2.2.2.2.2.1.getD 9 .bad,
 s82.2.2.2.2.2.2.2.2.2.1.getD 10 .bad,
 s82.2.2.2.2.2.2.2.2.2.1.getD 11 .bad,
 s82.2.2.2.2.2.2.2.2.2.1.getD 12 .bad,
 s82.2.2.2.2.2.2.2.2.2.1.getD 13 .bad],
 [s82.2.2.2.2.2.2.2.2.2.2.1.getD 0 .bad,
 s82.2.2.2.2.2.2.2.2.2.2.1.getD 1 .bad,
 s82.2.2.2.2.2.2.2.2.2.2.1.getD 2 .bad],
 [s82.2.2.2.2.2.2.2.2.2.2.2.1.getD 0 .bad,
 s82.2.2.2.2.2.2.2.2.2.2.2.1.getD 1 .bad,
 s82.2.2.2.2.2.2.2.2.2.2.2.1.getD 2 .bad],
 s82.2.2.2.2.2.2.2.2.2.2.2.2.1, ())
def lint_Warnings_L5 (L : Lps) : (PV × PV × Int × Int × List PV × List PV × List PV × List PV × List PV × List PV × List PV × List PV × Unit) → (PV × PV × Int × Int × List PV × List PV × List PV × List PV × List PV × List PV × List PV × List PV × Unit → Option PV) → Option PV := fun s70 rec71 =>
 if decide (s70.2.2.2.1 < s70.2.2.1) = true then
 mapCase 3 (cell s70.1 0)
 ((Ab.asInt .i64 (cell s70.2.1 0)).bind fun n72 =>
 (bif (↑s70.2.2.2.2.2.2.2.2.2.2.2.1.length : Int) == 0 then some true
 else
 if
 inRange (IntKind.i64.wrap ((↑s70.2.2.2.2.2.2.2.2.2.2.2.1.length : Int) - 1))
 s70.2.2.2.2.2.2.2.2.2.2.2.1.length then
 s70.2.2.2.2.2.2.2.2.2.2.2.1[(IntKind.i64.wrap
 ((↑s70.2.2.2.2.2.2.2.2.2.2.2.1.length : Int) - 1)).toNat]?.bind
 fun e73 =>
 if
 chk
 (Kd.int IntKind.i64 ::
 [].append (Kd.int IntKind.i64 :: [].append (Kd.int IntKind.i64 :: [].append [])))
 [cell e73 0, cell e73 1, cell e73 2] =
 true ∧
 chk
 (Kd.int IntKind.i64 ::
 [].append (Kd.int IntKind.i64 :: [].append (Kd.int IntKind.i64 :: [].append [])))
 [PV.int .i64 n72, PV.int .i64 s70.2.2.2.1, PV.int .i64 0] =
 true then
 some
 !peqL [cell e73 0, cell e73 1, cell e73 2]
 [PV.int .i64 n72, PV.int .i64 s70.2.2.2.1, PV.int .i64 0]
 else none
 else none).bind
 fun r74 =>
 if r74 = true then
 if
 (s70.2.2.2.2.2.2.2.2.2.2.2.1 ++
 [PV.agg
 [PV.int .i64 n72, PV.int .i64 s70.2.2.2.1,
 PV.int .i64 0]]).length *
 24 ≤
 roomBound ∧
 0 < 24 then
 rec71
 (PV.agg [cell s70.1 0], PV.agg [cell s70.2.1 0], s70.2.2.1,
 IntKind.i64.wrap (s70.2.2.2.1 + 1),
 [s70.2.2.2.2.1.getD 0 .bad, s70.2.2.2.2.1.getD 1 .bad,
 s70.2.2.2.2.1.getD 2 .bad],
 [s70.2.2.2.2.2.1.getD 0 .bad, s70.2.2.2.2.2.1.getD 1 .bad,
 s70.2.2.2.2.2.1.getD 2 .bad],
 [s70.2.2.2.2.2.2.1.getD 0 .bad, s70.2.2.2.2.2.2.1.getD 1 .bad,
 s70.2.2.2.2.2.2.1.getD 2 .bad],
 [s70.2.2.2.2.2.2.2.1.getD 0 .bad, s70.2.2.2.2.2.2.2.1.getD 1 .bad,
 s70.2.2.2.2.2.2.2.1.getD 2 .bad],
 [s70.2.2.2.2.2.2.2.2.1.getD 0 .bad,
 s70.2.2.2.2.2.2.2.2.1.getD 1 .bad,
 s70.2.2.2.2.2.2.2.2.1.getD 2 .bad,
 s70.2.2.2.2.2.2.2.2.1.getD 3 .bad,
 s70.2.2.2.2.2.2.2.2.1.getD 4 .bad,
 s70.2.2.2.2.2.2.2.2.1.getD 5 .bad,
 s70.2.2.2.2.2.2.2.2.1.getD 6 .bad,
 s70.2.2.2.2.2.2.2.2.1.getD 7 .bad,
 s70.2.2.2.2.2.2.2.2.1.getD 8 .bad,
 s70.2.2.2.2.2.2.2.2.1.getD 9 .bad,
 s70.2.2.2.2.2.2.2.2.1.getD 10 .bad,
 s70.2.2.2.2.2.2.2.2.1.getD 11 .bad,
 s70.2.2.2.2.2.2.2.2.1.getD 12 .bad,
 s70.2.2.2.2.2.2.2.2.1.getD 13 .bad],
 [s70.2.2.2.2.2.2.2.2.2.1.getD 0 .bad,
 s70.2.2.2.2.2.2.2.2.2.1.getD 1 .bad,
 s70.2.2.2.2.2.2.2.2.2.1.getD 2 .bad],
 [s70.2.2.2.2.2.2.2.2.2.2.1.getD 0 .bad,
 s70.2.2.2.2.2.2.2.2.2.2.1.getD 1 .bad,
 s70.2.2.2.2.2.2.2.2.2.2.1.getD 2 .bad],
 s70.2.2.2.2.2.2.2.2.2.2.2.1 ++
 [PV.agg [PV.int .i64 n72, PV.int .i64 s70.2.2.2.1, PV.int .i64 0]],
 ())
 else none
 else
 rec71
 (PV.agg [cell s70.1 0], PV.agg [cell s70.2.1 0], s70.2.2.1,
 IntKind.i64.wrap (s70.2.2.2.1 + 1),
 [s70.2.2.2.2.1.getD 0 .bad, s70.2.2.2.2.1.getD 1 .bad,
 s70.2.2.2.2.1.getD 2 .bad],
 [s70.2.2.2.2.2.1.getD 0 .bad, s70.2.2.2.2.2.1.getD 1 .bad,
 s70.2.2.2.2.2.1.getD 2 .bad],
 [s70.2.2.2.2.2.2.1.getD 0 .bad, s70.2.2.2.2.2.2.1.getD 1 .bad,
 s70.2.2.2.2.2.2.1.getD 2 .bad],
 [s70.2.2.2.2.2.2.2.1.getD 0 .bad, s70.2.2.2.2.2.2.2.1.getD 1 .bad,
 s70.2.2.2.2.2.2.2.1.getD 2 .bad],
 [s70.2.2.2.2.2.2.2.2.1.getD 0 .bad,
 s70.2.2.2.2.2.2.2.2.1.getD 1 .bad,
 s70.2.2.2.2.2.2.2.2.1.getD 2 .bad,
 s70.2.2.2.2.2.2.2.2.1.getD 3 .bad,
 s70.2.2.2.2.2.2.2.2.1.getD 4 .bad,
 s70.2.2.2.2.2.2.2.2.1.getD 5 .bad,
 s70.2.2.2.2.2.2.2.2.1.getD 6 .bad,
 s70.2.2.2.2.2.2.2.2.1.getD 7 .bad,
 s70.2.2.2.2.2.2.2.2.1.getD 8 .bad,
 s70.2.2.2.2.2.2.2.2.1.getD 9 .bad,
 s70.2.2.2.2.2.2.2.2.1.getD 10 .bad,
 s70.2.2.2.2.2.2.2.2.1.getD 11 .bad,
 s70.2.2.2.2.2.2.2.2.1.getD 12 .bad,
 s70.2.2.2.2.2.2.2.2.1.getD 13 .bad],
 [s70.2.2.2.2.2.2.2.2.2.1.getD 0 .bad,
 s70.2.2.2.2.2.2.2.2.2.1.getD 1 .bad,
 s70.2.2.2.2.2.2.2.2.2.1.getD 2 .bad],
 [s70.2.2.2.2.2.2.2.2.2.2.1.getD 0 .bad,
 s70.2.2.2.2.2.2.2.2.2.2.1.getD 1 .bad,
 s70.2.2.2.2.2.2.2.2.2.2.1.getD 2 .bad],
 s70.2.2.2.2.2.2.2.2.2.2.2.1, ()))
 fun ks75 vs76 =>
 (Ab.asBool (mlook (PV.int .i64 s70.2.2.2.1) (PV.bool false) (ks75.zip vs76))).bind fun b77 =>
 bif sameB true !b77 then
 (Ab.asInt .i64 (cell s70.2.1 0)).bind fun n78 =>
 (bif (↑s70.2.2.2.2.2.2.2.2.2.2.2.1.length : Int) == 0 then some true
 else
 if
 inRange (IntKind.i64.wrap ((↑s70.2.2.2.2.2.2.2.2.2.2.2.1.length : Int) - 1))
 s70.2.2.2.2.2.2.2.2.2.2.2.1.length then
 s70.2.2.2.2.2.2.2.2.2.2.2.1[(IntKind.i64.wrap
 ((↑s70.2.2.2.2.2.2.2.2.2.2.2.1.length : Int) - 1)).toNat]?.bind
 fun e79 =>
 if
 chk
 (Kd.int IntKind.i64 ::
 [].append (Kd.int IntKind.i64 :: [].append (Kd.int IntKind.i64 :: [].append [])))
 [cell e79 0, cell e79 1, cell e79 2] =
 true ∧
 chk
 (Kd.int IntKind.i64 ::
 [].append (Kd.int IntKind.i64 :: [].append (Kd.int IntKind.i64 :: [].append [])))
 [PV.int .i64 n78, PV.int .i64 s70.2.2.2.1, PV.int .i64 0] =
 true then
 some
 !peqL [cell e79 0, cell e79 1, cell e79 2]
 [PV.int .i64 n78, PV.int .i64 s70.2.2.2.1, PV.int .i64 0]
 else none
 else none).bind
 fun r80 =>
 if r80 = true then
 if
 (s70.2.2.2.2.2.2.2.2.2.2.2.1 ++
 [PV.agg
 [PV.int .i64 n78, PV.int .i64 s70.2.2.2.1,
 PV.int .i64 0]]).length *
 24 ≤
 roomBound ∧
 0 < 24 then
 rec71
 (PV.agg [cell s70.1 0], PV.agg [cell s70.2.1 0], s70.2.2.1,
 IntKind.i64.wrap (s70.2.2.2.1 + 1),
 [s70.2.2.2.2.1.getD 0 .bad, s70.2.2.2.2.1.getD 1 .bad,
 s70.2.2.2.2.1.getD 2 .bad],
 [s70.2.2.2.2.2.1.getD 0 .bad, s70.2.2.2.2.2.1.getD 1 .bad,
 s70.2.2.2.2.2.1.getD 2 .bad],
 [s70.2.2.2.2.2.2.1.getD 0 .bad, s70.2.2.2.2.2.2.1.getD 1 .bad,
 s70.2.2.2.2.2.2.1.getD 2 .bad],
 [s70.2.2.2.2.2.2.2.1.getD 0 .bad,
 s70.2.2.2.2.2.2.2.1.getD 1 .bad,
 s70.2.2.2.2.2.2.2.1.getD 2 .bad],
 [s70.2.2.2.2.2.2.2.2.1.getD 0 .bad,
 s70.2.2.2.2.2.2.2.2.1.getD 1 .bad,
 s70.2.2.2.2.2.2.2.2.1.getD 2 .bad,
 s70.2.2.2.2.2.2.2.2.1.getD 3 .bad,
 s70.2.2.2.2.2.2.2.2.1.getD 4 .bad,
 s70.2.2.2.2.2.2.2.2.1.getD 5 .bad,
 s70.2.2.2.2.2.2.2.2.1.getD 6 .bad,
 s70.2.2.2.2.2.2.2.2.1.getD 7 .bad,
 s70.2.2.2.2.2.2.2.2.1.getD 8 .bad,
 s70.2.2.2.2.2.2.2.2.1.getD 9 .bad,
 s70.2.2.2.2.2.2.2.2.1.getD 10 .bad,
 s70.2.2.2.2.2.2.2.2.1.getD 11 .bad,
 s70.2.2.2.2.2.2.2.2.1.getD 12 .bad,
 s70.2.2.2.2.2.2.2.2.1.getD 13 .bad],
 [s70.2.2.2.2.2.2.2.2.2.1.getD 0 .bad,
 s70.2.2.2.2.2.2.2.2.2.1.getD 1 .bad,
 s70.2.2.2.2.2.2.2.2.2.1.getD 2 .bad],
 [s70.2.2.2.2.2.2.2.2.2.2.1.getD 0 .bad,
 s70.2.2.2.2.2.2.2.2.2.2.1.getD 1 .bad,
 s70.2.2.2.2.2.2.2.2.2.2.1.getD 2 .bad],
 s70.2.2.2.2.2.2.2.2.2.2.2.1 ++
 [PV.agg [PV.int .i64 n78, PV.int .i64 s70.2.2.2.1, PV.int .i64 0]],
 ())
 else none
 else
 rec71
 (PV.agg [cell s70.1 0], PV.agg [cell s70.2.1 0], s70.2.2.1,
 IntKind.i64.wrap (s70.2.2.2.1 + 1),
 [s70.2.2.2.2.1.getD 0 .bad, s70.2.2.2.2.1.getD 1 .bad,
 s70.2.2.2.2.1.getD 2 .bad],
 [s70.2.2.2.2.2.1.getD 0 .bad, s70.2.2.2.2.2.1.getD 1 .bad,
 s70.2.2.2.2.2.1.getD 2 .bad],
 [s70.2.2.2.2.2.2.1.getD 0 .bad, s70.2.2.2.2.2.2.1.getD 1 .bad,
 s70.2.2.2.2.2.2.1.getD 2 .bad],
 [s70.2.2.2.2.2.2.2.1.getD 0 .bad, s70.2.2.2.2.2.2.2.1.getD 1 .bad,
 s70.2.2.2.2.2.2.2.1.getD 2 .bad],
 [s70.2.2.2.2.2.2.2.2.1.getD 0 .bad,
 s70.2.2.2.2.2.2.2.2.1.getD 1 .bad,
 s70.2.2.2.2.2.2.2.2.1.getD 2 .bad,
 s70.2.2.2.2.2.2.2.2.1.getD 3 .bad,
 s70.2.2.2.2.2.2.2.2.1.getD 4 .bad,
 s70.2.2.2.2.2.2.2.2.1.getD 5 .bad,
 s70.2.2.2.2.2.2.2.2.1.getD 6 .bad,
 s70.2.2.2.2.2.2.2.2.1.getD 7 .bad,
 s70.2.2.2.2.2.2.2.2.1.getD 8 .bad,
 s70.2.2.2.2.2.2.2.2.1.getD 9 .bad,
 s70.2.2.2.2.2.2.2.2.1.getD 10 .bad,
 s70.2.2.2.2.2.2.2.2.1.getD 11 .bad,
 s70.2.2.2.2.2.2.2.2.1.getD 12 .bad,
 s70.2.2.2.2.2.2.2.2.1.getD 13 .bad],
 [s70.2.2.2.2.2.2.2.2.2.1.getD 0 .bad,
 s70.2.2.2.2.2.2.2.2.2.1.getD 1 .bad,
 s70.2.2.2.2.2.2.2.2.2.1.getD 2 .bad],
 [s70.2.2.2.2.2.2.2.2.2.2.1.getD 0 .bad,
 s70.2.2.2.2.2.2.2.2.2.2.1.getD 1 .bad,
 s70.2.2.2.2.2.2.2.2.2.2.1.getD 2 .bad],
 s70.2.2.2.2.2.2.2.2.2.2.2.1, ())
 else
 rec71
 (PV.agg [cell s70.1 0], PV.agg [cell s70.2.1 0], s70.2.2.1,
 IntKind.i64.wrap (s70.2.2.2.1 + 1),
 [s70.2.2.2.2.1.getD 0 .bad, s70.2.2.2.2.1.getD 1 .bad,
 s70.2.2.2.2.1.getD 2 .bad],
 [s70.2.2.2.2.2.1.getD 0 .bad, s70.2.2.2.2.2.1.getD 1 .bad,
 s70.2.2.2.2.2.1.getD 2 .bad],
 [s70.2.2.2.2.2.2.1.getD 0 .bad, s70.2.2.2.2.2.2.1.getD 1 .bad,
 s70.2.2.2.2.2.2.1.getD 2 .bad],
 [s70.2.2.2.2.2.2.2.1.getD 0 .bad, s70.2.2.2.2.2.2.2.1.getD 1 .bad,
 s70.2.2.2.2.2.2.2.1.getD 2 .bad],
 [s70.2.2.2.2.2.2.2.2.1.getD 0 .bad,
 s70.2.2.2.2.2.2.2.2.1.getD 1 .bad,
 s70.2.2.2.2.2.2.2.2.1.getD 2 .bad,
 s70.2.2.2.2.2.2.2.2.1.getD 3 .bad,
 s70.2.2.2.2.2.2.2.2.1.getD 4 .bad,
 s70.2.2.2.2.2.2.2.2.1.getD 5 .bad,
 s70.2.2.2.2.2.2.2.2.1.getD 6 .bad,
 s70.2.2.2.2.2.2.2.2.1.getD 7 .bad,
 s70.2.2.2.2.2.2.2.2.1.getD 8 .bad,
 s70.2.2.2.2.2.2.2.2.1.getD 9 .bad,
 s70.2.2.2.2.2.2.2.2.1.getD 10 .bad,
 s70.2.2.2.2.2.2.2.2.1.getD 11 .bad,
 s70.2.2.2.2.2.2.2.2.1.getD 12 .bad,
 s70.2.2.2.2.2.2.2.2.1.getD 13 .bad],
 [s70.2.2.2.2.2.2.2.2.2.1.getD 0 .bad,
 s70.2.2.2.2.2.2.2.2.2.1.getD 1 .bad,
 s70.2.2.2.2.2.2.2.2.2.1.getD 2 .bad],
 [s70.2.2.2.2.2.2.2.2.2.2.1.getD 0 .bad,
 s70.2.2.2.2.2.2.2.2.2.2.1.getD 1 .bad,
 s70.2.2.2.2.2.2.2.2.2.2.1.getD 2 .bad],
 s70.2.2.2.2.2.2.2.2.2.2.2.1, ())
else
 (asSl 5 (s70.2.2.2.2.2.2.2.2.1.getD 4 .bad)).bind fun es81 =>
 L.run (lint_Warnings_L4 L)
 (PV.agg
 [s70.2.2.2.2.2.2.2.2.1.getD 0 .bad, s70.2.2.2.2.2.2.2.2.1.getD 1 .bad,
 s70.2.2.2.2.2.2.2.2.1.getD 2 .bad,
 s70.2.2.2.2.2.2.2.2.1.getD 3 .bad,
 s70.2.2.2.2.2.2.2.2.1.getD 4 .bad,
 s70.2.2.2.2.2.2.2.2.1.getD 5 .bad,
 s70.2.2.2.2.2.2.2.2.1.getD 6 .bad,
 s70.2.2.2.2.2.2.2.2.1.getD 7 .bad,
 s70.2.2.2.2.2.2.2.2.1.getD 8 .bad,
 s70.2.2.2.2.2.2.2.2.1.getD 9 .bad,
 s70.2.2.2.2.2.2.2.2.1.getD 10 .bad,
 s70.2.2.2.2.2.2.2.2.1.getD 11 .bad,
 s70.2.2.2.2.2.2.2.2.1.getD 12 .bad],
 [s70.2.2.2.2.2.2.2.2.1.getD 13 .bad], es81, (↑es81.length : Int), 0,
 [s70.2.2.2.2.1.getD 0 .bad, s70.2.2.2.2.1.getD 1 .bad,
 s70.2.2.2.2.1.getD 2 .bad],
 [s70.2.2.2.2.2.1.getD 0 .bad, s70.2.2.2.2.2.1.getD 1 .bad,
 s70.2.2.2.2.2.1.getD 2 .bad],
 [s70.2.2.2.2.2.2.1.getD 0 .bad, s70.2.2.2.2.2.2.1.getD 1 .bad,
 s70.2.2.2.2.2.2.1.getD 2 .bad],
 [s70.2.2.2.2.2.2.2.1.getD 0 .bad, s70.2.2.2.2.2.2.2.1.getD 1 .bad,
 s70.2.2.2.2.2.2.2.1.getD 2 .bad],
 [s70.2.2.2.2.2.2.2.2.1.getD 0 .bad, s70.2.2.2.2.2.2.2.2.1.getD 1 .bad,
 s70.2.2.2.2.2.2.2.2.1.getD 2 .bad, s70.2.2.2.2.2.2.2.2.1.getD 3 .bad,
 s70.2.2.2.2.2.2.2.2.1.getD 4 .bad, s70.2.2.2.2.2.2.2.2.1.getD 5 .bad,
 s70.2.2.2.2.2.2.2.2.1.getD 6 .bad, s70.2.2.2.2.2.2.2.2.1.getD 7 .bad,
 s70.2.2.2.2.2.2.2.2.1.getD 8 .bad, s70.2.2.2.2.2.2.2.2.1.getD 9 .bad,
 s70.2.2.2.2.2.2.2.2.1.getD 10 .bad,
 s70.2.2.2.2.2.2.2.2.1.getD 11 .bad,
 s70.2.2.2.2.2.2.2.2.1.getD 12 .bad,
 s70.2.2.2.2.2.2.2.2.1.getD 13 .bad],
 [s70.2.2.2.2.2.2.2.2.2.1.getD 0 .bad,
 s70.2.2.2.2.2.2.2.2.2.1.getD 1 .bad,
 s70.2.2.2.2.2.2.2.2.2.1.getD 2 .bad],
 [s70.2.2.2.2.2.2.2.2.2.2.1.getD 0 .bad,
 s70.2.2.2.2.2.2.2.2.2.2.1.getD 1 .bad,
 s70.2.2.2.2.2.2.2.2.2.2.1.getD 2 .bad],
 s70.2.2.2.2.2.2.2.2.2.2.2.1, ())
def lint_Warnings_L6 (L : Lps) : (PV × PV × Int × Int × List PV × List PV × List PV × List PV × List PV × List PV × List PV × List PV × Unit) → (PV × PV × Int × Int × List PV × List PV × List PV × List PV × List PV × List PV × List PV × List PV × Unit → Option PV) → Option PV := fun s58 rec59 =>
 if decide (s58.2.2.2.1 < s58.2.2.1) = true then
 mapCase 3 (cell s58.1 0)
 ((Ab.asInt .i64 (cell s58.2.1 0)).bind fun n60 =>
 (bif (↑s58.2.2.2.2.2.2.2.2.2.2.2.1.length : Int) == 0 then some true
 else
 if
 inRange (IntKind.i64.wrap ((↑s58.2.2.2.2.2.2.2.2.2.2.2.1.length : Int) - 1))
 s58.2.2.2.2.2.2.2.2.2.2.2.1.length then
 s58.2.2.2.2.2.2.2.2.2.2.2.1[(IntKind.i64.wrap
 ((↑s58.2.2.2.2.2.2.2.2.2.2.2.1.length : Int) - 1)).toNat]?.bind
 fun e61 =>
 if
 chk
 (Kd.int IntKind.i64 ::
 [].append (Kd.int IntKind.i64 :: [].append (Kd.int IntKind.i64 :: [].append [])))
 [cell e61 0, cell e61 1, cell e61 2] =
 true ∧
 chk
 (Kd.int IntKind.i64 ::
 [].append (Kd.int IntKind.i64 :: [].append (Kd.int IntKind.i64 :: [].append [])))
 [PV.int .i64 n60, PV.int .i64 s58.2.2.2.1, PV.int .i64 0] =
 true then
 some
 !peqL [cell e61 0, cell e61 1, cell e61 2]
 [PV.int .i64 n60, PV.int .i64 s58.2.2.2.1, PV.int .i64 0]
 else none
 else none).bind
 fun r62 =>
 if r62 = true then
 if
 (s58.2.2.2.2.2.2.2.2.2.2.2.1 ++
 [PV.agg
 [PV.int .i64 n60, PV.int .i64 s58.2.2.2.1,
 PV.int .i64 0]]).length *
 24 ≤
 roomBound ∧
 0 < 24 then
 rec59
 (PV.agg [cell s58.1 0], PV.agg [cell s58.2.1 0], s58.2.2.1,
 IntKind.i64.wrap (s58.2.2.2.1 + 1),
 [s58.2.2.2.2.1.getD 0 .bad, s58.2.2.2.2.1.getD 1 .bad,
 s58.2.2.2.2.1.getD 2 .bad],
 [s58.2.2.2.2.2.1.getD 0 .bad, s58.2.2.2.2.2.1.getD 1 .bad,
 s58.2.2.2.2.2.1.getD 2 .bad],
 [s58.2.2.2.2.2.2.1.getD 0 .bad, s58.2.2.2.2.2.2.1.getD 1 .bad,
 s58.2.2.2.2.2.2.1.getD 2 .bad],
 [s58.2.2.2.2.2.2.2.1.getD 0 .bad, s58.2.2.2.2.2.2.2.1.getD 1 .bad,
 s58.2.2.2.2.2.2.2.1.getD 2 .bad],
 [s58.2.2.2.2.2.2.2.2.1.getD 0 .bad,
 s58.2.2.2.2.2.2.2.2.1.getD 1 .bad,
 s58.2.2.2.2.2.2.2.2.1.getD 2 .bad,
 s58.2.2.2.2.2.2.2.2.1.getD 3 .bad,
 s58.2.2.2.2.2.2.2.2.1.getD 4 .bad,
 s58.2.2.2.2.2.2.2.2.1.getD 5 .bad,
 s58.2.2.2.2.2.2.2.2.1.getD 6 .bad,
 s58.2.2.2.2.2.2.2.2.1.getD 7 .bad,
 s58.2.2.2.2.2.2.2.2.1.getD 8 .bad,
 s58.2.2.2.2.2.2.2.2.1.getD 9 .bad,
 s58.2.2.2.2.2.2.2.2.1.getD 10 .bad,
 s58.2.2.2.2.2.2.2.2.1.getD 11 .bad,
 s58.2.2.2.2.2.2.2.2.1.getD 12 .bad,
 s58.2.2.2.2.2.2.2.2.1.getD 13 .bad],
 [s58.2.2.2.2.2.2.2.2.2.1.getD 0 .bad,
 s58.2.2.2.2.2.2.2.2.2.1.getD 1 .bad,
 s58.2.2.2.2.2.2.2.2.2.1.getD 2 .bad],
 [s58.2.2.2.2.2.2.2.2.2.2.1.getD 0 .bad,
 s58.2.2.2.2.2.2.2.2.2.2.1.getD 1 .bad,
 s58.2.2.2.2.2.2.2.2.2.2.1.getD 2 .bad],
 s58.2.2.2.2.2.2.2.2.2.2.2.1 ++
 [PV.agg [PV.int .i64 n60, PV.int .i64 s58.2.2.2.1, PV.int .i64 0]],
 ())
 else none
 else
 rec59
 (PV.agg [cell s58.1 0], PV.agg [cell s58.2.1 0], s58.2.2.1,
 IntKind.i64.wrap (s58.2.2.2.1 + 1),
 [s58.2.2.2.2.1.getD 0 .bad, s58.2.2.2.2.1.getD 1 .bad,
 s58.2.2.2.2.1.getD 2 .bad],
 [s58.2.2.2.2.2.1.getD 0 .bad, s58.2.2.2.2.2.1.getD 1 .bad,
 s58.2.2.2.2.2.1.getD 2 .bad],
 [s58.2.2.2.2.2.2.1.getD 0 .bad, s58.2.2.2.2.2.2.1.getD 1 .bad,
 s58.2.2.2.2.2.2.1.getD 2 .bad],
 [s58.2.2.2.2.2.2.2.1.getD 0 .bad, s58.2.2.2.2.2.2.2.1.getD 1 .bad,
 s58.2.2.2.2.2.2.2.1.getD 2 .bad],
 [s58.2.2.2.2.2.2.2.2.1.getD 0 .bad,
 s58.2.2.2.2.2.2.2.2.1.getD 1 .bad,
 s58.2.2.2.2.2.2.2.2.1.getD 2 .bad,
 s58.2.2.2.2.2.2.2.2.1.getD 3 .bad,
 s58.2.2.2.2.2.2.2.2.1.getD 4 .bad,
 s58.2.2.2.2.2.2.2.2.1.getD 5 .bad,
 s58.2.2.2.2.2.2.2.2.1.getD 6 .bad,
 s58.2.2.2.2.2.2.2.2.1.getD 7 .bad,
 s58.2.2.2.2.2.2.2.2.1.getD 8 .bad,
 s58.2.2.2.2.2.2.2.2.1.getD 9 .bad,
 s58.2.2.2.2.2.2.2.2.1.getD 10 .bad,
 s58.2.2.2.2.2.2.2.2.1.getD 11 .bad,
 s58.2.2.2.2.2.2.2.2.1.getD 12 .bad,
 s58.2.2.2.2.2.2.2.2.1.getD 13 .bad],
 [s58.2.2.2.2.2.2.2.2.2.1.getD 0 .bad,
 s58.2.2.2.2.2.2.2.2.2.1.getD 1 .bad,
 s58.2.2.2.2.2.2.2.2.2.1.getD 2 .bad],
 [s58.2.2.2.2.2.2.2.2.2.2.1.getD 0 .bad,
 s58.2.2.2.2.2.2.2.2.2.2.1.getD 1 .bad,
 s58.2.2.2.2.2.2.2.2.2.2.1.getD 2 .bad],
 s58.2.2.2.2.2.2.2.2.2.2.2.1, ()))
 fun ks63 vs64 =>
 (Ab.asBool (mlook (PV.int .i64 s58.2.2.2.1) (PV.bool false) (ks63.zip vs64))).bind fun b65 =>
 bif sameB true !b65 then
 (Ab.asInt .i64 (cell s58.2.1 0)).bind fun n66 =>
 (bif (↑s58.2.2.2.2.2.2.2.2.2.2.2.1.length : Int) == 0 then some true
 else
 if
 inRange (IntKind.i64.wrap ((↑s58.2.2.2.2.2.2.2.2.2.2.2.1.length : Int) - 1))
 s58.2.2.2.2.2.2.2.2.2.2.2.1.length then
 s58.2.2.2.2.2.2.2.2.2.2.2.1[(IntKind.i64.wrap
 ((↑s58.2.2.2.2.2.2.2.2.2.2.2.1.length : Int) - 1)).toNat]?.bind
 fun e67 =>
 if
 chk
 (Kd.int IntKind.i64 ::
 [].append (Kd.int IntKind.i64 :: [].append (Kd.int IntKind.i64 :: [].append [])))
 [cell e67 0, cell e67 1, cell e67 2] =
 true ∧
 chk
 (Kd.int IntKind.i64 ::
 [].append (Kd.int IntKind.i64 :: [].append (Kd.int IntKind.i64 :: [].append [])))
 [PV.int .i64 n66, PV.int .i64 s58.2.2.2.1, PV.int .i64 0] =
 true then
 some
 !peqL [cell e67 0, cell e67 1, cell e67 2]
 [PV.int .i64 n66, PV.int .i64 s58.2.2.2.1, PV.int .i64 0]
 else none
 else none).bind
 fun r68 =>
 if r68 = true then
 if
 (s58.2.2.2.2.2.2.2.2.2.2.2.1 ++
 [PV.agg
 [PV.int .i64 n66, PV.int .i64 s58.2.2.2.1,
 PV.int .i64 0]]).length *
 24 ≤
 roomBound ∧
 0 < 24 then
 rec59
 (PV.agg [cell s58.1 0], PV.agg [cell s58.2.1 0], s58.2.2.1,
 IntKind.i64.wrap (s58.2.2.2.1 + 1),
 [s58.2.2.2.2.1.getD 0 .bad, s58.2.2.2.2.1.getD 1 .bad,
 s58.2.2.2.2.1.getD 2 .bad],
 [s58.2.2.2.2.2.1.getD 0 .bad, s58.2.2.2.2.2.1.getD 1 .bad,
 s58.2.2.2.2.2.1.getD 2 .bad],
 [s58.2.2.2.2.2.2.1.getD 0 .bad, s58.2.2.2.2.2.2.1.getD 1 .bad,
 s58.2.2.2.2.2.2.1.getD 2 .bad],
 [s58.2.2.2.2.2.2.2.1.getD 0 .bad,
 s58.2.2.2.2.2.2.2.1.getD 1 .bad,
 s58.2.2.2.2.2.2.2.1.getD 2 .bad],
 [s58.2.2.2.2.2.2.2.2.1.getD 0 .bad,
 s58.2.2.2.2.2.2.2.2.1.getD 1 .bad,
 s58.2.2.2.2.2.2.2.2.1.getD 2 .bad,
 s58.2.2.2.2.2.2.2.2.1.getD 3 .bad,
 s58.2.2.2.2.2.2.2.2.1.getD 4 .bad,
 s58.2.2.2.2.2.2.2.2.1.getD 5 .bad,
 s58.2.2.2.2.2.2.2.2.1.getD 6 .bad,
 s58.2.2.2.2.2.2.2.2.1.getD 7 .bad,
 s58.2.2.2.2.2.2.2.2.1.getD 8 .bad,
 s58.2.2.2.2.2.2.2.2.1.getD 9 .bad,
 s58.2.2.2.2.2.2.2.2.1.getD 10 .bad,
 s58.2.2.2.2.2.2.2.2.1.getD 11 .bad,
 s58.2.2.2.2.2.2.2.2.1.getD 12 .bad,
 s58.2.2.2.2.2.2.2.2.1.getD 13 .bad],
 [s58.2.2.2.2.2.2.2.2.2.1.getD 0 .bad,
 s58.2.2.2.2.2.2.2.2.2.1.getD 1 .bad,
 s58.2.2.2.2.2.2.2.2.2.1.getD 2 .bad],
 [s58.2.2.2.2.2.2.2.2.2.2.1.getD 0 .bad,
 s58.2.2.2.2.2.2.2.2.2.2.1.getD 1 .bad,
 s58.2.2.2.2.2.2.2.2.2.2.1.getD 2 .bad],
 s58.2.2.2.2.2.2.2.2.2.2.2.1 ++
 [PV.agg [PV.int .i64 n66, PV.int .i64 s58.2.2.2.1, PV.int .i64 0]],
 ())
 else none
 else
 rec59
 (PV.agg [cell s58.1 0], PV.agg [cell s58.2.1 0], s58.2.2.1,
 IntKind.i64.wrap (s58.2.2.2.1 + 1),
 [s58.2.2.2.2.1.getD 0 .bad, s58.2.2.2.2.1.getD 1 .bad,
 s58.2.2.2.2.1.getD 2 .bad],
 [s58.2.2.2.2.2.1.getD 0 .bad, s58.2.2.2.2.2.1.getD 1 .bad,
 s58.2.2.2.2.2.1.getD 2 .bad],
 [s58.2.2.2.2.2.2.1.getD 0 .bad, s58.2.2.2.2.2.2.1.getD 1 .bad,
 s58.2.2.2.2.2.2.1.getD 2 .bad],
 [s58.2.2.2.2.2.2.2.1.getD 0 .bad, s58.2.2.2.2.2.2.2.1.getD 1 .bad,
 s58.2.2.2.2.2.2.2.1.getD 2 .bad],
 [s58.2.2.2.2.2.2.2.2.1.getD 0 .bad,
 s58.2.2.2.2.2.2.2.2.1.getD 1 .bad,
 s58.2.2.2.2.2.2.2.2.1.getD 2 .bad,
 s58.2.2.2.2.2.2.2.2.1.getD 3 .bad,
 s58.2.2.2.2.2.2.2.2.1.getD 4 .bad,
 s58.2.2.2.2.2.2.2.2.1.getD 5 .bad,
 s58.2.2.2.2.2.2.2.2.1.getD 6 .bad,
 s58.2.2.2.2.2.2.2.2.1.getD 7 .bad,
 s58.2.2.2.2.2.2.2.2.1.getD 8 .bad,
 s58.2.2.2.2.2.2.2.2.1.getD 9 .bad,
 s58.2.2.2.2.2.2.2.2.1.getD 10 .bad,
 s58.2.2.2.2.2.2.2.2.1.getD 11 .bad,
 s58.2.2.2.2.2.2.2.2.1.getD 12 .bad,
 s58.2.2.2.2.2.2.2.2.1.getD 13 .bad],
 [s58.2.2.2.2.2.2.2.2.2.1.getD 0 .bad,
 s58.2.2.2.2.2.2.2.2.2.1.getD 1 .bad,
 s58.2.2.2.2.2.2.2.2.2.1.getD 2 .bad],
 [s58.2.2.2.2.2.2.2.2.2.2.1.getD 0 .bad,
 s58.2.2.2.2.2.2.2.2.2.2.1.getD 1 .bad,
 s58.2.2.2.2.2.2.2.2.2.2.1.getD 2 .bad],
 s58.2.2.2.2.2.2.2.2.2.2.2.1, ())
 else
 rec59
 (PV.agg [cell s58.1 0], PV.agg [cell s58.2.1 0], s58.2.2.1,
 IntKind.i64.wrap (s58.2.2.2.1 + 1),
 [s58.2.2.2.2.1.getD 0 .bad, s58.2.2.2.2.1.getD 1 .bad,
 s58.2.2.2.2.1.getD 2 .bad],
 [s58.2.2.2.2.2.1.getD 0 .bad, s58.2.2.2.2.2.1.getD 1 .bad,
 s58.2.2.2.2.2.1.getD 2 .bad],
 [s58.2.2.2.2.2.2.1.getD 0 .bad, s58.2.2.2.2.2.2.1.getD 1 .bad,
 s58.2.2.2.2.2.2.1.getD 2 .bad],
 [s58.2.2.2.2.2.2.2.1.getD 0 .bad, s58.2.2.2.2.2.2.2.1.getD 1 .bad,
 s58.2.2.2.2.2.2.2.1.getD 2 .bad],
 [s58.2.2.2.2.2.2.2.2.1.getD 0 .bad,
 s58.2.2.2.2.2.2.2.2.1.getD 1 .bad,
 s58.2.2.2.2.2.2.2.2.1.getD 2 .bad,
 s58.2.2.2.2.2.2.2.2.1.getD 3 .bad,
 s58.2.2.2.2.2.2.2.2.1.getD 4 .bad,
 s58.2.2.2.2.2.2.2.2.1.getD 5 .bad,
 s58.2.2.2.2.2.2.2.2.1.getD 6 .bad,
 s58.2.2.2.2.2.2.2.2.1.getD 7 .bad,
 s58.2.2.2.2.2.2.2.2.1.getD 8 .bad,
 s58.2.2.2.2.2.2.2.2.1.getD 9 .bad,
 s58.2.2.2.2.2.2.2.2.1.getD 10 .bad,
 s58.2.2.2.2.2.2.2.2.1.getD 11 .bad,
 s58.2.2.2.2.2.2.2.2.1.getD 12 .bad,
 s58.2.2.2.2.2.2.2.2.1.getD 13 .bad],
 [s58.2.2.2.2.2.2.2.2.2.1.getD 0 .bad,
 s58.2.2.2.2.2.2.2.2.2.1.getD 1 .bad,
 s58.2.2.2.2.2.2.2.2.2.1.getD 2 .bad],
 [s58.2.2.2.2.2.2.2.2.2.2.1.getD 0 .bad,
 s58.2.2.2.2.2.2.2.2.2.2.1.getD 1 .bad,
 s58.2.2.2.2.2.2.2.2.2.2.1.getD 2 .bad],
 s58.2.2.2.2.2.2.2.2.2.2.2.1, ())
else
 (Ab.asInt .i64 (s58.2.2.2.2.2.2.2.1.getD 0 .bad)).bind fun n69 =>
 L.run (lint_Warnings_L5 L)
 (PV.agg [s58.2.2.2.2.2.2.2.1.getD 1 .bad],
 PV.agg [s58.2.2.2.2.2.2.2.1.getD 2 .bad], n69, 0,
 [s58.2.2.2.2.1.getD 0 .bad, s58.2.2.2.2.1.getD 1 .bad,
 s58.2.2.2.2.1.getD 2 .bad],
 [s58.2.2.2.2.2.1.getD 0 .bad, s58.2.2.2.2.2.1.getD 1 .bad,
 s58.2.2.2.2.2.1.getD 2 .bad],
 [s58.2.2.2.2.2.2.1.getD 0 .bad, s58.2.2.2.2.2.2.1.getD 1 .bad,
 s58.2.2.2.2.2.2.1.getD 2 .bad],
 [s58.2.2.2.2.2.2.2.1.getD 0 .bad, s58.2.2.2.2.2.2.2.1.getD 1 .bad,
 s58.2.2.2.2.2.2.2.1.getD 2 .bad],
 [s58.2.2.2.2.2.2.2.2.1.getD 0 .bad, s58.2.2.2.2.2.2.2.2.1.getD 1 .bad,
 s58.2.2.2.2.2.2.2.2.1.getD 2 .bad, s58.2.2.2.2.2.2.2.2.1.getD 3 .bad,
 s58.2.2.2.2.2.2.2.2.1.getD 4 .bad, s58.2.2.2.2.2.2.2.2.1.getD 5 .bad,
 s58.2.2.2.2.2.2.2.2.1.getD 6 .bad, s58.2.2.2.2.2.2.2.2.1.getD 7 .bad,
 s58.2.2.2.2.2.2.2.2.1.getD 8 .bad, s58.2.2.2.2.2.2.2.2.1.getD 9 .bad,
 s58.2.2.2.2.2.2.2.2.1.getD 10 .bad,
 s58.2.2.2.2.2.2.2.2.1.getD 11 .bad,
 s58.2.2.2.2.2.2.2.2.1.getD 12 .bad,
 s58.2.2.2.2.2.2.2.2.1.getD 13 .bad],
 [s58.2.2.2.2.2.2.2.2.2.1.getD 0 .bad,
 s58.2.2.2.2.2.2.2.2.2.1.getD 1 .bad,
 s58.2.2.2.2.2.2.2.2.2.1.getD 2 .bad],
 [s58.2.2.2.2.2.2.2.2.2.2.1.getD 0 .bad,
 s58.2.2.2.2.2.2.2.2.2.2.1.getD 1 .bad,
 s58.2.2.2.2.2.2.2.2.2.2.1.getD 2 .bad],
 s58.2.2.2.2.2.2.2.2.2.2.2.1, ())
def lint_Warnings_L7 (L : Lps) : (PV × PV × Int × Int × List PV × List PV × List PV × List PV × List PV × List PV × List PV × List PV × Unit) → (PV × PV × Int × Int × List PV × List PV × List PV × List PV × List PV × List PV × List PV × List PV × Unit → Option PV) → Option PV := fun s46 rec47 =>
 if decide (s46.2.2.2.1 < s46.2.2.1) = true then
 mapCase 3 (cell s46.1 0)
 ((Ab.asInt .i64 (cell s46.2.1 0)).bind fun n48 =>
 (bif (↑s46.2.2.2.2.2.2.2.2.2.2.2.1.length : Int) == 0 then some true
 else
 if
 inRange (IntKind.i64.wrap ((↑s46.2.2.2.2.2.2.2.2.2.2.2.1.length : Int) - 1))
 s46.2.2.2.2.2.2.2.2.2.2.2.1.length then
 s46.2.2.2.2.2.2.2.2.2.2.2.1[(IntKind.i64.wrap
 ((↑s46.2.2.2.2.2.2.2.2.2.2.2.1.length : Int) - 1)).toNat]?.bind
 fun e49 =>
 if
 chk
 (Kd.int IntKind.i64 ::
 [].append (Kd.int IntKind.i64 :: [].append (Kd.int IntKind.i64 :: [].append [])))
 [cell e49 0, cell e49 1, cell e49 2] =
 true ∧
 chk
 (Kd.int IntKind.i64 ::
 [].append (Kd.int IntKind.i64 :: [].append (Kd.int IntKind.i64 :: [].append [])))
 [PV.int .i64 n48, PV.int .i64 s46.2.2.2.1, PV.int .i64 0] =
 true then
 some
 !peqL [cell e49 0, cell e49 1, cell e49 2]
 [PV.int .i64 n48, PV.int .i64 s46.2.2.2.1, PV.int .i64 0]
 else none
 else none).bind
 fun r50 =>
 if r50 = true then
 if
 (s46.2.2.2.2.2.2.2.2.2.2.2.1 ++
 [PV.agg
 [PV.int .i64 n48, PV.int .i64 s46.2.2.2.1,
 PV.int .i64 0]]).length *
 24 ≤
 roomBound ∧
 0 < 24 then
 rec47
 (PV.agg [cell s46.1 0], PV.agg [cell s46.2.1 0], s46.2.2.1,
 IntKind.i64.wrap (s46.2.2.2.1 + 1),
 [s46.2.2.2.2.1.getD 0 .bad, s46.2.2.2.2.1.getD 1 .bad,
 s46.2.2.2.2.1.getD 2 .bad],
 [s46.2.2.2.2.2.1.getD 0 .bad, s46.2.2.2.2.2.1.getD 1 .bad,
 s46.2.2.2.2.2.1.getD 2 .bad],
 [s46.2.2.2.2.2.2.1.getD 0 .bad, s46.2.2.2.2.2.2.1.getD 1 .bad,
 s46.2.2.2.2.2.2.1.getD 2 .bad],
 [s46.2.2.2.2.2.2.2.1.getD 0 .bad, s46.2.2.2.2.2.2.2.1.getD 1 .bad,
 s46.2.2.2.2.2.2.2.1.getD 2 .bad],
 [s46.2.2.2.2.2.2.2.2.1.getD 0 .bad,
 s46.2.2.2.2.2.2.2.2.1.getD 1 .bad,
 s46.2.2.2.2.2.2.2.2.1.getD 2 .bad,
 s46.2.2.2.2.2.2.2.2.1.getD 3 .bad,
 s46.2.2.2.2.2.2.2.2.1.getD 4 .bad,
 s46.2.2.2.2.2.2.2.2.1.getD 5 .bad,
 s46.2.2.2.2.2.2.2.2.1.getD 6 .bad,
 s46.2.2.2.2.2.2.2.2.1.getD 7 .bad,
 s46.2.2.2.2.2.2.2.2.1.getD 8 .bad,
 s46.2.2.2.2.2.2.2.2.1.getD 9 .bad,
 s46.2.2.2.2.2.2.2.2.1.getD 10 .bad,
 s46.2.2.2.2.2.2.2.2.1.getD 11 .bad,
 s46.2.2.2.2.2.2.2.2.1.getD 12 .bad,
 s46.2.2.2.2.2.2.2.2.1.getD 13 .bad],
 [s46.2.2.2.2.2.2.2.2.2.1.getD 0 .bad,
 s46.2.2.2.2.2.2.2.2.2.1.getD 1 .bad,
 s46.2.2.2.2.2.2.2.2.2.1.getD 2 .bad],
 [s46.2.2.2.2.2.2.2.2.2.2.1.getD 0 .bad,
 s46.2.2.2.2.2.2.2.2.2.2.1.getD 1 .bad,
 s46.2.2.2.2.2.2.2.2.2.2.1.getD 2 .bad],
 s46.2.2.2.2.2.2.2.2.2.2.2.1 ++
 [PV.agg [PV.int .i64 n48, PV.int .i64 s46.2.2.2.1, PV.int .i64 0]],
 ())
 else none
 else
 rec47
 (PV.agg [cell s46.1 0], PV.agg [cell s46.2.1 0], s46.2.2.1,
 IntKind.i64.wrap (s46.2.2.2.1 + 1),
 [s46.2.2.2.2.1.getD 0 .bad, s46.2.2.2.2.1.getD 1 .bad,
 s46.2.2.2.2.1.getD 2 .bad],
 [s46.2.2.2.2.2.1.getD 0 .bad, s46.2.2.2.2.2.1.getD 1 .bad,
 s46.2.2.2.2.2.1.getD 2 .bad],
 [s46.2.2.2.2.2.2.1.getD 0 .bad, s46.2.2.2.2.2.2.1.getD 1 .bad,
 s46.2.2.2.2.2.2.1.getD 2 .bad],
 [s46.2.2.2.2.2.2.2.1.getD 0 .bad, s46.2.2.2.2.2.2.2.1.getD 1 .bad,
 s46.2.2.2.2.2.2.2.1.getD 2 .bad],
 [s46.2.2.2.2.2.2.2.2.1.getD 0 .bad,
 s46.2.2.2.2.2.2.2.2.1.getD 1 .bad,
 s46.2.2.2.2.2.2.2.2.1.getD 2 .bad,
 s46.2.2.2.2.2.2.2.2.1.getD 3 .bad,
 s46.2.2.2.2.2.2.2.2.1.getD 4 .bad,
 s46.2.2.2.2.2.2.2.2.1.getD 5 .bad,
 s46.2.2.2.2.2.2.2.2.1.getD 6 .bad,
 s46.2.2.2.2.2.2.2.2.1.getD 7 .bad,
 s46.2.2.2.2.2.2.2.2.1.getD 8 .bad,
 s46.2.2.2.2.2.2.2.2.1.getD 9 .bad,
 s46.2.2.2.2.2.2.2.2.1.getD 10 .bad,
 s46.2.2.2.2.2.2.2.2.1.getD 11 .bad,
 s46.2.2.2.2.2.2.2.2.1.getD 12 .bad,
 s46.2.2.2.2.2.2.2.2.1.getD 13 .bad],
 [s46.2.2.2.2.2.2.2.2.2.1.getD 0 .bad,
 s46.2.2.2.2.2.2.2.2.2.1.getD 1 .bad,
 s46.2.2.2.2.2.2.2.2.2.1.getD 2 .bad],
 [s46.2.2.2.2.2.2.2.2.2.2.1.getD 0 .bad,
 s46.2.2.2.2.2.2.2.2.2.2.1.getD 1 .bad,
 s46.2.2.2.2.2.2.2.2.2.2.1.getD 2 .bad],
 s46.2.2.2.2.2.2.2.2.2.2.2.1, ()))
 fun ks51 vs52 =>
 (Ab.asBool (mlook (PV.int .i64 s46.2.2.2.1) (PV.bool false) (ks51.zip vs52))).bind fun b53 =>
 bif sameB true !b53 then
 (Ab.asInt .i64 (cell s46.2.1 0)).bind fun n54 =>
 (bif (↑s46.2.2.2.2.2.2.2.2.2.2.2.1.length : Int) == 0 then some true
 else
 if
 inRange (IntKind.i64.wrap ((↑s46.2.2.2.2.2.2.2.2.2.2.2.1.length : Int) - 1))
 s46.2.2.2.2.2.2.2.2.2.2.2.1.length then
 s46.2.2.2.2.2.2.2.2.2.2.2.1[(IntKind.i64.wrap
 ((↑s46.2.2.2.2.2.2.2.2.2.2.2.1.length : Int) - 1)).toNat]?.bind
 fun e55 =>
 if
 chk
 (Kd.int IntKind.i64 ::
 [].append (Kd.int IntKind.i64 :: [].append (Kd.int IntKind.i64 :: [].append [])))
 [cell e55 0, cell e55 1, cell e55 2] =
 true ∧
 chk
 (Kd.int IntKind.i64 ::
 [].append (Kd.int IntKind.i64 :: [].append (Kd.int IntKind.i64 :: [].append [])))
 [PV.int .i64 n54, PV.int .i64 s46.2.2.2.1, PV.int .i64 0] =
 true then
 some
 !peqL [cell e55 0, cell e55 1, cell e55 2]
 [PV.int .i64 n54, PV.int .i64 s46.2.2.2.1, PV.int .i64 0]
 else none
 else none).bind
 fun r56 =>
 if r56 = true then
 if
 (s46.2.2.2.2.2.2.2.2.2.2.2.1 ++
 [PV.agg
 [PV.int .i64 n54, PV.int .i64 s46.2.2.2.1,
 PV.int .i64 0]]).length *
 24 ≤
 roomBound ∧
 0 < 24 then
 rec47
 (PV.agg [cell s46.1 0], PV.agg [cell s46.2.1 0], s46.2.2.1,
 IntKind.i64.wrap (s46.2.2.2.1 + 1),
 [s46.2.2.2.2.1.getD 0 .bad, s46.2.2.2.2.1.getD 1 .bad,
 s46.2.2.2.2.1.getD 2 .bad],
 [s46.2.2.2.2.2.1.getD 0 .bad, s46.2.2.2.2.2.1.getD 1 .bad,
 s46.2.2.2.2.2.1.getD 2 .bad],
 [s46.2.2.2.2.2.2.1.getD 0 .bad, s46.2.2.2.2.2.2.1.getD 1 .bad,
 s46.2.2.2.2.2.2.1.getD 2 .bad],
 [s46.2.2.2.2.2.2.2.1.getD 0 .bad,
 s46.2.2.2.2.2.2.2.1.getD 1 .bad,
 s46.2.2.2.2.2.2.2.1.getD 2 .bad],
 [s46.2.2.2.2.2.2.2.2.1.getD 0 .bad,
 s46.2.2.2.2.2.2.2.2.1.getD 1 .bad,
 s46.2.2.2.2.2.2.2.2.1.getD 2 .bad,
 s46.2.2.2.2.2.2.2.2.1.getD 3 .bad,
 s46.2.2.2.2.2.2.2.2.1.getD 4 .bad,
 s46.2.2.2.2.2.2.2.2.1.getD 5 .bad,
 s46.2.2.2.2.2.2.2.2.1.getD 6 .bad,
 s46.2.2.2.2.2.2.2.2.1.getD 7 .bad,
 s46.2.2.2.2.2.2.2.2.1.getD 8 .bad,
 s46.2.2.2.2.2.2.2.2.1.getD 9 .bad,
 s46.2.2.2.2.2.2.2.2.1.getD 10 .bad,
 s46.2.2.2.2.2.2.2.2.1.getD 11 .bad,
 s46.2.2.2.2.2.2.2.2.1.getD 12 .bad,
 s46.2.2.2.2.2.2.2.2.1.getD 13 .bad],
 [s46.2.2.2.2.2.2.2.2.2.1.getD 0 .bad,
 s46.2.2.2.2.2.2.2.2.2.1.getD 1 .bad,
 s46.2.2.2.2.2.2.2.2.2.1.getD 2 .bad],
 [s46.2.2.2.2.2.2.2.2.2.2.1.getD 0 .bad,
 s46.2.2.2.2.2.2.2.2.2.2.1.getD 1 .bad,
 s46.2.2.2.2.2.2.2.2.2.2.1.getD 2 .bad],
 s46.2.2.2.2.2.2.2.2.2.2.2.1 ++
 [PV.agg [PV.int .i64 n54, PV.int .i64 s46.2.2.2.1, PV.int .i64 0]],
 ())
 else none
 else
 rec47
 (PV.agg [cell s46.1 0], PV.agg [cell s46.2.1 0], s46.2.2.1,
 IntKind.i64.wrap (s46.2.2.2.1 + 1),
 [s46.2.2.2.2.1.getD 0 .bad, s46.2.2.2.2.1.getD 1 .bad,
 s46.2.2.2.2.1.getD 2 .bad],
 [s46.2.2.2.2.2.1.getD 0 .bad, s46.2.2.2.2.2.1.getD 1 .bad,
 s46.2.2.2.2.2.1.getD 2 .bad],
 [s46.2.2.2.2.2.2.1.getD 0 .bad, s46.2.2.2.2.2.2.1.getD 1 .bad,
 s46.2.2.2.2.2.2.1.getD 2 .bad],
 [s46.2.2.2.2.2.2.2.1.getD 0 .bad, s46.2.2.2.2.2.2.2.1.getD 1 .bad,
 s46.2.2.2.2.2.2.2.1.getD 2 .bad],
 [s46.2.2.2.2.2.2.2.2.1.getD 0 .bad,
 s46.2.2.2.2.2.2.2.2.1.getD 1 .bad,
 s46.2.2.2.2.2.2.2.2.1.getD 2 .bad,
 s46.2.2.2.2.2.2.2.2.1.getD 3 .bad,
 s46.2.2.2.2.2.2.2.2.1.getD 4 .bad,
 s46.2.2.2.2.2.2.2.2.1.getD 5 .bad,
 s46.2.2.2.2.2.2.2.2.1.getD 6 .bad,
 s46.2.2.2.2.2.2.2.2.1.getD 7 .bad,
 s46.2.2.2.2.2.2.2.2.1.getD 8 .bad,
 s46.2.2.2.2.2.2.2.2.1.getD 9 .bad,
 s46.2.2.2.2.2.2.2.2.1.getD 10 .bad,
 s46.2.2.2.2.2.2.2.2.1.getD 11 .bad,
 s46.2.2.2.2.2.2.2.2.1.getD 12 .bad,
 s46.2.2.2.2.2.2.2.2.1.getD 13 .bad],
 [s46.2.2.2.2.2.2.2.2.2.1.getD 0 .bad,
 s46.2.2.2.2.2.2.2.2.2.1.getD 1 .bad,
 s46.2.2.2.2.2.2.2.2.2.1.getD 2 .bad],
 [s46.2.2.2.2.2.2.2.2.2.2.1.getD 0 .bad,
 s46.2.2.2.2.2.2.2.2.2.2.1.getD 1 .bad,
 s46.2.2.2.2.2.2.2.2.2.2.1.getD 2 .bad],
 s46.2.2.2.2.2.2.2.2.2.2.2.1, ())
 else
 rec47
 (PV.agg [cell s46.1 0], PV.agg [cell s46.2.1 0], s46.2.2.1,
 IntKind.i64.wrap (s46.2.2.2.1 + 1),
 [s46.2.2.2.2.1.getD 0 .bad, s46.2.2.2.2.1.getD 1 .bad,
 s46.2.2.2.2.1.getD 2 .bad],
 [s46.2.2.2.2.2.1.getD 0 .bad, s46.2.2.2.2.2.1.getD 1 .bad,
 s46.2.2.2.2.2.1.getD 2 .bad],
 [s46.2.2.2.2.2.2.1.getD 0 .bad, s46.2.2.2.2.2.2.1.getD 1 .bad,
 s46.2.2.2.2.2.2.1.getD 2 .bad],
 [s46.2.2.2.2.2.2.2.1.getD 0 .bad, s46.2.2.2.2.2.2.2.1.getD 1 .bad,
 s46.2.2.2.2.2.2.2.1.getD 2 .bad],
 [s46.2.2.2.2.2.2.2.2.1.getD 0 .bad,
 s46.2.2.2.2.2.2.2.2.1.getD 1 .bad,
 s46.2.2.2.2.2.2.2.2.1.getD 2 .bad,
 s46.2.2.2.2.2.2.2.2.1.getD 3 .bad,
 s46.2.2.2.2.2.2.2.2.1.getD 4 .bad,
 s46.2.2.2.2.2.2.2.2.1.getD 5 .bad,
 s46.2.2.2.2.2.2.2.2.1.getD 6 .bad,
 s46.2.2.2.2.2.2.2.2.1.getD 7 .bad,
 s46.2.2.2.2.2.2.2.2.1.getD 8 .bad,
 s46.2.2.2.2.2.2.2.2.1.getD 9 .bad,
 s46.2.2.2.2.2.2.2.2.1.getD 10 .bad,
 s46.2.2.2.2.2.2.2.2.1.getD 11 .bad,
 s46.2.2.2.2.2.2.2.2.1.getD 12 .bad,
 s46.2.2.2.2.2.2.2.2.1.getD 13 .bad],
 [s46.2.2.2.2.2.2.2.2.2.1.getD 0 .bad,
 s46.2.2.2.2.2.2.2.2.2.1.getD 1 .bad,
 s46.2.2.2.2.2.2.2.2.2.1.getD 2 .bad],
 [s46.2.2.2.2.2.2.2.2.2.2.1.getD 0 .bad,
 s46.2.2.2.2.2.2.2.2.2.2.1.getD 1 .bad,
 s46.2.2.2.2.2.2.2.2.2.2.1.getD 2 .bad],
 s46.2.2.2.2.2.2.2.2.2.2.2.1, ())
else
 (Ab.asInt .i64 (s46.2.2.2.2.2.2.1.getD 0 .bad)).bind fun n57 =>
 L.run (lint_Warnings_L6 L)
 (PV.agg [s46.2.2.2.2.2.2.1.getD 1 .bad], PV.agg [s46.2.2.2.2.2.2.1.getD 2 .bad],
 n57, 0,
 [s46.2.2.2.2.1.getD 0 .bad, s46.2.2.2.2.1.getD 1 .bad,
 s46.2.2.2.2.1.getD 2 .bad],
 [s46.2.2.2.2.2.1.getD 0 .bad, s46.2.2.2.2.2.1.getD 1 .bad,
 s46.2.2.2.2.2.1.getD 2 .bad],
 [s46.2.2.2.2.2.2.1.getD 0 .bad, s46.2.2.2.2.2.2.1.getD 1 .bad,
 s46.2.2.2.2.2.2.1.getD 2 .bad],
 [s46.2.2.2.2.2.2.2.1.getD 0 .bad, s46.2.2.2.2.2.2.2.1.getD 1 .bad,
 s46.2.2.2.2.2.2.2.1.getD 2 .bad],
 [s46.2.2.2.2.2.2.2.2.1.getD 0 .bad, s46.2.2.2.2.2.2.2.2.1.getD 1 .bad,
 s46.2.2.2.2.2.2.2.2.1.getD 2 .bad, s46.2.2.2.2.2.2.2.2.1.getD 3 .bad,
 s46.2.2.2.2.2.2.2.2.1.getD 4 .bad, s46.2.2.2.2.2.2.2.2.1.getD 5 .bad,
 s46.2.2.2.2.2.2.2.2.1.getD 6 .bad, s46.2.2.2.2.2.2.2.2.1.getD 7 .bad,
 s46.2.2.2.2.2.2.2.2.1.getD 8 .bad, s46.2.2.2.2.2.2.2.2.1.getD 9 .bad,
 s46.2.2.2.2.2.2.2.2.1.getD 10 .bad,
 s46.2.2.2.2.2.2.2.2.1.getD 11 .bad,
 s46.2.2.2.2.2.2.2.2.1.getD 12 .bad,
 s46.2.2.2.2.2.2.2.2.1.getD 13 .bad],
 [s46.2.2.2.2.2.2.2.2.2.1.getD 0 .bad,
 s46.2.2.2.2.2.2.2.2.2.1.getD 1 .bad,
 s46.2.2.2.2.2.2.2.2.2.1.getD 2 .bad],
 [s46.2.2.2.2.2.2.2.2.2.2.1.getD 0 .bad,
 s46.2.2.2.2.2.2.2.2.2.2.1.getD 1 .bad,
 s46.2.2.2.2.2.2.2.2.2.2.1.getD 2 .bad],
 s46.2.2.2.2.2.2.2.2.2.2.2.1, ())
def lint_Warnings_L8 (L : Lps) : (PV × PV × Int × Int × List PV × List PV × List PV × List PV × List PV × List PV × List PV × List PV × Unit) → (PV × PV × Int × Int × List PV × List PV × List PV × List PV × List PV × List PV × List PV × List PV × Unit → Option PV) → Option PV := fun s34 rec35 =>
 if decide (s34.2.2.2.1 < s34.2.2.1) = true then
 mapCase 3 (cell s34.1 0)
 ((Ab.asInt .i64 (cell s34.2.1 0)).bind fun n36 =>
 (bif (↑s34.2.2.2.2.2.2.2.2.2.2.2.1.length : Int) == 0 then some true
 else
 if
 inRange (IntKind.i64.wrap ((↑s34.2.2.2.2.2.2.2.2.2.2.2.1.length : Int) - 1))
 s34.2.2.2.2.2.2.2.2.2.2.2.1.length then
 s34.2.2.2.2.2.2.2.2.2.2.2.1[(IntKind.i64.wrap
 ((↑s34.2.2.2.2.2.2.2.2.2.2.2.1.length : Int) - 1)).toNat]?.bind
 fun e37 =>
 if
 chk
 (Kd.int IntKind.i64 ::
 [].append (Kd.int IntKind.i64 :: [].append (Kd.int IntKind.i64 :: [].append [])))
 [cell e37 0, cell e37 1, cell e37 2] =
 true ∧
 chk
 (Kd.int IntKind.i64 ::
 [].append (Kd.int IntKind.i64 :: [].append (Kd.int IntKind.i64 :: [].append [])))
 [PV.int .i64 n36, PV.int .i64 s34.2.2.2.1, PV.int .i64 0] =
 true then
 some
 !peqL [cell e37 0, cell e37 1, cell e37 2]
 [PV.int .i64 n36, PV.int .i64 s34.2.2.2.1, PV.int .i64 0]
 else none
 else none).bind
 fun r38 =>
 if r38 = true then
 if
 (s34.2.2.2.2.2.2.2.2.2.2.2.1 ++
 [PV.agg
 [PV.int .i64 n36, PV.int .i64 s34.2.2.2.1,
 PV.int .i64 0]]).length *
 24 ≤
 roomBound ∧
 0 < 24 then
 rec35
 (PV.agg [cell s34.1 0], PV.agg [cell s34.2.1 0], s34.2.2.1,
 IntKind.i64.wrap (s34.2.2.2.1 + 1),
 [s34.2.2.2.2.1.getD 0 .bad, s34.2.2.2.2.1.getD 1 .bad,
 s34.2.2.2.2.1.getD 2 .bad],
 [s34.2.2.2.2.2.1.getD 0 .bad, s34.2.2.2.2.2.1.getD 1 .bad,
 s34.2.2.2.2.2.1.getD 2 .bad],
 [s34.2.2.2.2.2.2.1.getD 0 .bad, s34.2.2.2.2.2.2.1.getD 1 .bad,
 s34.2.2.2.2.2.2.1.getD 2 .bad],
 [s34.2.2.2.2.2.2.2.1.getD 0 .bad, s34.2.2.2.2.2.2.2.1.getD 1 .bad,
 s34.2.2.2.2.2.2.2.1.getD 2 .bad],
 [s34.2.2.2.2.2.2.2.2.1.getD 0 .bad,
 s34.2.2.2.2.2.2.2.2.1.getD 1 .bad,
 s34.2.2.2.2.2.2.2.2.1.getD 2 .bad,
 s34.2.2.2.2.2.2.2.2.1.getD 3 .bad,
 s34.2.2.2.2.2.2.2.2.1.getD 4 .bad,
 s34.2.2.2.2.2.2.2.2.1.getD 5 .bad,
 s34.2.2.2.2.2.2.2.2.1.getD 6 .bad,
 s34.2.2.2.2.2.2.2.2.1.getD 7 .bad,
 s34.2.2.2.2.2.2.2.2.1.getD 8 .bad,
 s34.2.2.2.2.2.2.2.2.1.getD 9 .bad,
 s34.2.2.2.2.2.2.2.2.1.getD 10 .bad,
 s34.2.2.2.2.2.2.2.2.1.getD 11 .bad,
 s34.2.2.2.2.2.2.2.2.1.getD 12 .bad,
 s34.2.2.2.2.2.2.2.2.1.getD 13 .bad],
 [s34.2.2.2.2.2.2.2.2.2.1.getD 0 .bad,
 s34.2.2.2.2.2.2.2.2.2.1.getD 1 .bad,
 s34.2.2.2.2.2.2.2.2.2.1.getD 2 .bad],
 [s34.2.2.2.2.2.2.2.2.2.2.1.getD 0 .bad,
 s34.2.2.2.2.2.2.2.2.2.2.1.getD 1 .bad,
 s34.2.2.2.2.2.2.2.2.2.2.1.getD 2 .bad],
 s34.2.2.2.2.2.2.2.2.2.2.2.1 ++
 [PV.agg [PV.int .i64 n36, PV.int .i64 s34.2.2.2.1, PV.int .i64 0]],
 ())
 else none
 else
 rec35
 (PV.agg [cell s34.1 0], PV.agg [cell s34.2.1 0], s34.2.2.1,
 IntKind.i64.wrap (s34.2.2.2.1 + 1),
 [s34.2.2.2.2.1.getD 0 .bad, s34.2.2.2.2.1.getD 1 .bad,
 s34.2.2.2.2.1.getD 2 .bad],
 [s34.2.2.2.2.2.1.getD 0 .bad, s34.2.2.2.2.2.1.getD 1 .bad,
 s34.2.2.2.2.2.1.getD 2 .bad],
 [s34.2.2.2.2.2.2.1.getD 0 .bad, s34.2.2.2.2.2.2.1.getD 1 .bad,
 s34.2.2.2.2.2.2.1.getD 2 .bad],
 [s34.2.2.2.2.2.2.2.1.getD 0 .bad, s34.2.2.2.2.2.2.2.1.getD 1 .bad,
 s34.2.2.2.2.2.2.2.1.getD 2 .bad],
 [s34.2.2.2.2.2.2.2.2.1.getD 0 .bad,
 s34.2.2.2.2.2.2.2.2.1.getD 1 .bad,
 s34.2.2.2.2.2.2.2.2.1.getD 2 .bad,
 s34.2.2.2.2.2.2.2.2.1.getD 3 .bad,
 s34.2.2.2.2.2.2.2.2.1.getD 4 .bad,
 s34.2.2.2.2.2.2.2.2.1.getD 5 .bad,
 s34.2.2.2.2.2.2.2.2.1.getD 6 .bad,
 s34.2.2.2.2.2.2.2.2.1.getD 7 .bad,
 s34.2.2.2.2.2.2.2.2.1.getD 8 .bad,
 s34.2.2.2.2.2.2.2.2.1.getD 9 .bad,
 s34.2.2.2.2.2.2.2.2.1.getD 10 .bad,
 s34.2.2.2.2.2.2.2.2.1.getD 11 .bad,
 s34.2.2.2.2.2.2.2.2.1.getD 12 .bad,
 s34.2.2.2.2.2.2.2.2.1.getD 13 .bad],
 [s34.2.2.2.2.2.2.2.2.2.1.getD 0 .bad,
 s34.2.2.2.2.2.2.2.2.2.1.getD 1 .bad,
 s34.2.2.2.2.2.2.2.2.2.1.getD 2 .bad],
 [s34.2.2.2.2.2.2.2.2.2.2.1.getD 0 .bad,
 s34.2.2.2.2.2.2.2.2.2.2.1.getD 1 .bad,
 s34.2.2.2.2.2.2.2.2.2.2.1.getD 2 .bad],
 s34.2.2.2.2.2.2.2.2.2.2.2.1, ()))
 fun ks39 vs40 =>
 (Ab.asBool (mlook (PV.int .i64 s34.2.2.2.1) (PV.bool false) (ks39.zip vs40))).bind fun b41 =>
 bif sameB true !b41 then
 (Ab.asInt .i64 (cell s34.2.1 0)).bind fun n42 =>
 (bif (↑s34.2.2.2.2.2.2.2.2.2.2.2.1.length : Int) == 0 then some true
 else
 if
 inRange (IntKind.i64.wrap ((↑s34.2.2.2.2.2.2.2.2.2.2.2.1.length : Int) - 1))
 s34.2.2.2.2.2.2.2.2.2.2.2.1.length then
 s34.2.2.2.2.2.2.2.2.2.2.2.1[(IntKind.i64.wrap
 ((↑s34.2.2.2.2.2.2.2.2.2.2.2.1.length : Int) - 1)).toNat]?.bind
 fun e43 =>
 if
 chk
 (Kd.int IntKind.i64 ::
 [].append (Kd.int IntKind.i64 :: [].append (Kd.int IntKind.i64 :: [].append [])))
 [cell e43 0, cell e43 1, cell e43 2] =
 true ∧
 chk
 (Kd.int IntKind.i64 ::
 [].append (Kd.int IntKind.i64 :: [].append (Kd.int IntKind.i64 :: [].append [])))
 [PV.int .i64 n42, PV.int .i64 s34.2.2.2.1, PV.int .i64 0] =
 true then
 some
 !peqL [cell e43 0, cell e43 1, cell e43 2]
 [PV.int .i64 n42, PV.int .i64 s34.2.2.2.1, PV.int .i64 0]
 else none
 else none).bind
 fun r44 =>
 if r44 = true then
 if
 (s34.2.2.2.2.2.2.2.2.2.2.2.1 ++
 [PV.agg
 [PV.int .i64 n42, PV.int .i64 s34.2.2.2.1,
 PV.int .i64 0]]).length *
 24 ≤
 roomBound ∧
 0 < 24 then
 rec35
 (PV.agg [cell s34.1 0], PV.agg [cell s34.2.1 0], s34.2.2.1,
 IntKind.i64.wrap (s34.2.2.2.1 + 1),
 [s34.2.2.2.2.1.getD 0 .bad, s34.2.2.2.2.1.getD 1 .bad,
 s34.2.2.2.2.1.getD 2 .bad],
 [s34.2.2.2.2.2.1.getD 0 .bad, s34.2.2.2.2.2.1.getD 1 .bad,
 s34.2.2.2.2.2.1.getD 2 .bad],
 [s34.2.2.2.2.2.2.1.getD 0 .bad, s34.2.2.2.2.2.2.1.getD 1 .bad,
 s34.2.2.2.2.2.2.1.getD 2 .bad],
 [s34.2.2.2.2.2.2.2.1.getD 0 .bad,
 s34.2.2.2.2.2.2.2.1.getD 1 .bad,
 s34.2.2.2.2.2.2.2.1.getD 2 .bad],
 [s34.2.2.2.2.2.2.2.2.1.getD 0 .bad,
 s34.2.2.2.2.2.2.2.2.1.getD 1 .bad,
 s34.2.2.2.2.2.2.2.2.1.getD 2 .bad,
 s34.2.2.2.2.2.2.2.2.1.getD 3 .bad,
 s34.2.2.2.2.2.2.2.2.1.getD 4 .bad,
 s34.2.2.2.2.2.2.2.2.1.getD 5 .bad,
 s34.2.2.2.2.2.2.2.2.1.getD 6 .bad,
 s34.2.2.2.2.2.2.2.2.1.getD 7 .bad,
 s34.2.2.2.2.2.2.2.2.1.getD 8 .bad,
 s34.2.2.2.2.2.2.2.2.1.getD 9 .bad,
 s34.2.2.2.2.2.2.2.2.1.getD 10 .bad,
 s34.2.2.2.2.2.2.2.2.1.getD 11 .bad,
 s34.2.2.2.2.2.2.2.2.1.getD 12 .bad,
 s34.2.2.2.2.2.2.2.2.1.getD 13 .bad],
 [s34.2.2.2.2.2.2.2.2.2.1.getD 0 .bad,
 s34.2.2.2.2.2.2.2.2.2.1.getD 1 .bad,
 s34.2.2.2.2.2.2.2.2.2.1.getD 2 .bad],
 [s34.2.2.2.2.2.2.2.2.2.2.1.getD 0 .bad,
 s34.2.2.2.2.2.2.2.2.2.2.1.getD 1 .bad,
 s34.2.2.2.2.2.2.2.2.2.2.1.getD 2 .bad],
 s34.2.2.2.2.2.2.2.2.2.2.2.1 ++
 [PV.agg [PV.int .i64 n42, PV.int .i64 s34.2.2.2.1, PV.int .i64 0]],
 ())
 else none
 else
 rec35
 (PV.agg [cell s34.1 0], PV.agg [cell s34.2.1 0], s34.2.2.1,
 IntKind.i64.wrap (s34.2.2.2.1 + 1),
 [s34.2.2.2.2.1.getD 0 .bad, s34.2.2.2.2.1.getD 1 .bad,
 s34.2.2.2.2.1.getD 2 .bad],
 [s34.2.2.2.2.2.1.getD 0 .bad, s34.2.2.2.2.2.1.getD 1 .bad,
 s34.2.2.2.2.2.1.getD 2 .bad],
 [s34.2.2.2.2.2.2.1.getD 0 .bad, s34.2.2.2.2.2.2.1.getD 1 .bad,
 s34.2.2.2.2.2.2.1.getD 2 .bad],
 [s34.2.2.2.2.2.2.2.1.getD 0 .bad, s34.2.2.2.2.2.2.2.1.getD 1 .bad,
 s34.2.2.2.2.2.2.2.1.getD 2 .bad],
 [s34.2.2.2.2.2.2.2.2.1.getD 0 .bad,
 s34.2.2.2.2.2.2.2.2.1.getD 1 .bad,
 s34.2.2.2.2.2.2.2.2.1.getD 2 .bad,
 s34.2.2.2.2.2.2.2.2.1.getD 3 .bad,
 s34.2.2.2.2.2.2.2.2.1.getD 4 .bad,
 s34.2.2.2.2.2.2.2.2.1.getD 5 .bad,
 s34.2.2.2.2.2.2.2.2.1.getD 6 .bad,
 s34.2.2.2.2.2.2.2.2.1.getD 7 .bad,
 s34.2.2.2.2.2.2.2.2.1.getD 8 .bad,
 s34.2.2.2.2.2.2.2.2.1.getD 9 .bad,
 s34.2.2.2.2.2.2.2.2.1.getD 10 .bad,
 s34.2.2.2.2.2.2.2.2.1.getD 11 .bad,
 s34.2.2.2.2.2.2.2.2.1.getD 12 .bad,
 s34.2.2.2.2.2.2.2.2.1.getD 13 .bad],
 [s34.2.2.2.2.2.2.2.2.2.1.getD 0 .bad,
 s34.2.2.2.2.2.2.2.2.2.1.getD 1 .bad,
 s34.2.2.2.2.2.2.2.2.2.1.getD 2 .bad],
 [s34.2.2.2.2.2.2.2.2.2.2.1.getD 0 .bad,
 s34.2.2.2.2.2.2.2.2.2.2.1.getD 1 .bad,
 s34.2.2.2.2.2.2.2.2.2.2.1.getD 2 .bad],
 s34.2.2.2.2.2.2.2.2.2.2.2.1, ())
 else
 rec35
 (PV.agg [cell s34.1 0], PV.agg [cell s34.2.1 0], s34.2.2.1,
 IntKind.i64.wrap (s34.2.2.2.1 + 1),
 [s34.2.2.2.2.1.getD 0 .bad, s34.2.2.2.2.1.getD 1 .bad,
 s34.2.2.2.2.1.getD 2 .bad],
 [s34.2.2.2.2.2.1.getD 0 .bad, s34.2.2.2.2.2.1.getD 1 .bad,
 s34.2.2.2.2.2.1.getD 2 .bad],
 [s34.2.2.2.2.2.2.1.getD 0 .bad, s34.2.2.2.2.2.2.1.getD 1 .bad,
 s34.2.2.2.2.2.2.1.getD 2 .bad],
 [s34.2.2.2.2.2.2.2.1.getD 0 .bad, s34.2.2.2.2.2.2.2.1.getD 1 .bad,
 s34.2.2.2.2.2.2.2.1.getD 2 .bad],
 [s34.2.2.2.2.2.2.2.2.1.getD 0 .bad,
 s34.2.2.2.2.2.2.2.2.1.getD 1 .bad,
 s34.2.2.2.2.2.2.2.2.1.getD 2 .bad,
 s34.2.2.2.2.2.2.2.2.1.getD 3 .bad,
 s34.2.2.2.2.2.2.2.2.1.getD 4 .bad,
 s34.2.2.2.2.2.2.2.2.1.getD 5 .bad,
 s34.2.2.2.2.2.2.2.2.1.getD 6 .bad,
 s34.2.2.2.2.2.2.2.2.1.getD 7 .bad,
 s34.2.2.2.2.2.2.2.2.1.getD 8 .bad,
 s34.2.2.2.2.2.2.2.2.1.getD 9 .bad,
 s34.2.2.2.2.2.2.2.2.1.getD 10 .bad,
 s34.2.2.2.2.2.2.2.2.1.getD 11 .bad,
 s34.2.2.2.2.2.2.2.2.1.getD 12 .bad,
 s34.2.2.2.2.2.2.2.2.1.getD 13 .bad],
 [s34.2.2.2.2.2.2.2.2.2.1.getD 0 .bad,
 s34.2.2.2.2.2.2.2.2.2.1.getD 1 .bad,
 s34.2.2.2.2.2.2.2.2.2.1.getD 2 .bad],
 [s34.2.2.2.2.2.2.2.2.2.2.1.getD 0 .bad,
 s34.2.2.2.2.2.2.2.2.2.2.1.getD 1 .bad,
 s34.2.2.2.2.2.2.2.2.2.2.1.getD 2 .bad],
 s34.2.2.2.2.2.2.2.2.2.2.2.1, ())
else
 (Ab.asInt .i64 (s34.2.2.2.2.2.1.getD 0 .bad)).bind fun n45 =>
 L.run (lint_Warnings_L7 L)
 (PV.agg [s34.2.2.2.2.2.1.getD 1 .bad], PV.agg [s34.2.2.2.2.2.1.getD 2 .bad], n45, 0,
 [s34.2.2.2.2.1.getD 0 .bad, s34.2.2.2.2.1.getD 1 .bad,
 s34.2.2.2.2.1.getD 2 .bad],
 [s34.2.2.2.2.2.1.getD 0 .bad, s34.2.2.2.2.2.1.getD 1 .bad,
 s34.2.2.2.2.2.1.getD 2 .bad],
 [s34.2.2.2.2.2.2.1.getD 0 .bad, s34.2.2.2.2.2.2.1.getD 1 .bad,
 s34.2.2.2.2.2.2.1.getD 2 .bad],
 [s34.2.2.2.2.2.2.2.1.getD 0 .bad, s34.2.2.2.2.2.2.2.1.getD 1 .bad,
 s34.2.2.2.2.2.2.2.1.getD 2 .bad],
 [s34.2.2.2.2.2.2.2.2.1.getD 0 .bad, s34.2.2.2.2.2.2.2.2.1.getD 1 .bad,
 s34.2.2.2.2.2.2.2.2.1.getD 2 .bad, s34.2.2.2.2.2.2.2.2.1.getD 3 .bad,
 s34.2.2.2.2.2.2.2.2.1.getD 4 .bad, s34.2.2.2.2.2.2.2.2.1.getD 5 .bad,
 s34.2.2.2.2.2.2.2.2.1.getD 6 .bad, s34.2.2.2.2.2.2.2.2.1.getD 7 .bad,
 s34.2.2.2.2.2.2.2.2.1.getD 8 .bad, s34.2.2.2.2.2.2.2.2.1.getD 9 .bad,
 s34.2.2.2.2.2.2.2.2.1.getD 10 .bad,
 s34.2.2.2.2.2.2.2.2.1.getD 11 .bad,
 s34.2.2.2.2.2.2.2.2.1.getD 12 .bad,
 s34.2.2.2.2.2.2.2.2.1.getD 13 .bad],
 [s34.2.2.2.2.2.2.2.2.2.1.getD 0 .bad,
 s34.2.2.2.2.2.2.2.2.2.1.getD 1 .bad,
 s34.2.2.2.2.2.2.2.2.2.1.getD 2 .bad],
 [s34.2.2.2.2.2.2.2.2.2.2.1.getD 0 .bad,
 s34.2.2.2.2.2.2.2.2.2.2.1.getD 1 .bad,
 s34.2.2.2.2.2.2.2.2.2.2.1.getD 2 .bad],
 s34.2.2.2.2.2.2.2.2.2.2.2.1, ())
def lint_Warnings (L : Lps) (p0 : PV) : Option PV :=
 (Ab.asAgg 13 p0).bind fun x0 =>
 (asSl 4 (cell p0 0)).bind fun es1 =>
 (asSl 3 (cell p0 1)).bind fun es2 =>
 (asSl 10 (cell p0 2)).bind fun es3 =>
 (asSl 3 (cell p0 3)).bind fun es4 =>
 (asSl 5 (cell p0 4)).bind fun es5 =>
 (asSl 4 (cell p0 5)).bind fun es6 =>
 (asSl 2 (cell p0 6)).bind fun es7 =>
 (asSl 3 (cell p0 7)).bind fun es8 =>
 (asSl 4 (cell p0 8)).bind fun es9 =>
 (asSl 6 (cell p0 9)).bind fun es10 =>
 (Ab.asInt .i64 (cell p0 10)).bind fun n11 =>
 (Ab.asInt .i64 (cell p0 11)).bind fun n12 =>
 (Ab.asInt .i64 (cell p0 12)).bind fun n13 =>
 (timetable_Check_M
 [PV.agg
 [PV.rs 4 es1, PV.rs 3 es2, PV.rs 10 es3, PV.rs 3 es4, PV.rs 5 es5, PV.rs 4 es6,
 PV.rs 2 es7, PV.rs 3 es8, PV.rs 4 es9, PV.rs 6 es10, PV.int .i64 n11,
 PV.int .i64 n12, PV.int .i64 n13]]).bind
 fun r14 =>
 (asTup 3 r14).bind fun vs15 =>
 (Ab.asInt .i64 (vs15.getD 0 .bad)).bind fun n16 =>
 (Ab.asInt .i64 (vs15.getD 1 .bad)).bind fun n17 =>
 (Ab.asInt .i64 (vs15.getD 2 .bad)).bind fun n18 =>
 if (n18 != 0) = true then some (PV.rs 3 [])
 else
 (lint_stops_M
 [PV.agg
 [PV.rs 4 es1, PV.rs 3 es2, PV.rs 10 es3, PV.rs 3 es4, PV.rs 5 es5,
 PV.rs 4 es6, PV.rs 2 es7, PV.rs 3 es8, PV.rs 4 es9, PV.rs 6 es10,
 PV.int .i64 n11, PV.int .i64 n12,
 PV.int .i64 n13]]).bind
 fun r19 =>
 (rdL (FS.fn 63 [FS.ptr [FS.raw], FS.ptr [FS.raw], FS.ptr [FS.raw]]) r19).bind
 fun ls20 =>
 (lint_routes_M
 [PV.agg
 [PV.rs 4 es1, PV.rs 3 es2, PV.rs 10 es3, PV.rs 3 es4, PV.rs 5 es5,
 PV.rs 4 es6, PV.rs 2 es7, PV.rs 3 es8, PV.rs 4 es9,
 PV.rs 6 es10, PV.int .i64 n11, PV.int .i64 n12,
 PV.int .i64 n13]]).bind
 fun r21 =>
 (rdL (FS.fn 63 [FS.ptr [FS.raw], FS.ptr [FS.raw], FS.ptr [FS.raw]])
 r21).bind
 fun ls22 =>
 (lint_calendars_M
 [PV.agg
 [PV.rs 4 es1, PV.rs 3 es2, PV.rs 10 es3, PV.rs 3 es4,
 PV.rs 5 es5, PV.rs 4 es6, PV.rs 2 es7, PV.rs 3 es8,
 PV.rs 4 es9, PV.rs 6 es10, PV.int .i64 n11,
 PV.int .i64 n12, PV.int .i64 n13]]).bind
 fun r23 =>
 (rdL (FS.fn 63 [FS.ptr [FS.raw], FS.ptr [FS.raw], FS.ptr [FS.raw]])
 r23).bind
 fun ls24 =>
 (lint_idle_M
 [PV.agg
 [PV.rs 4 es1, PV.rs 3 es2, PV.rs 10 es3, PV.rs 3 es4,
 PV.rs 5 es5, PV.rs 4 es6, PV.rs 2 es7, PV.rs 3 es8,
 PV.rs 4 es9, PV.rs 6 es10, PV.int .i64 n11,
 PV.int .i64 n12, PV.int .i64 n13]]).bind
 fun r25 =>
 (rdL
 (FS.fn 63
 [FS.ptr [FS.raw], FS.ptr [FS.raw], FS.ptr [FS.raw]])
 r25).bind
 fun ls26 =>
 (lint_overtaking_M
 [PV.agg
 [PV.rs 4 es1, PV.rs 3 es2, PV.rs 10 es3, PV.rs 3 es4,
 PV.rs 5 es5, PV.rs 4 es6, PV.rs 2 es7, PV.rs 3 es8,
 PV.rs 4 es9, PV.rs 6 es10, PV.int .i64 n11,
 PV.int .i64 n12,
 PV.int .i64 n13]]).bind
 fun r27 =>
 (rdL
 (FS.fn 48
 [FS.ptr
 [FS.raw, FS.raw, FS.raw, FS.raw, FS.raw, FS.raw,
 FS.raw, FS.raw, FS.raw, FS.raw, FS.raw, FS.raw,
 FS.raw],
 FS.ptr [FS.fn 47 [FS.ptr [FS.raw]]]])
 r27).bind
 fun ls28 =>
 (lint_unreachable_M
 [PV.agg
 [PV.rs 4 es1, PV.rs 3 es2, PV.rs 10 es3,
 PV.rs 3 es4, PV.rs 5 es5, PV.rs 4 es6,
 PV.rs 2 es7, PV.rs 3 es8, PV.rs 4 es9,
 PV.rs 6 es10, PV.int .i64 n11,
 PV.int .i64 n12,
 PV.int .i64 n13]]).bind
 fun r29 =>
 (rdL
 (FS.fn 63
 [FS.ptr [FS.raw], FS.ptr [FS.raw],
 FS.ptr [FS.raw]])
 r29).bind
 fun ls30 =>
 (lint_unpaid_M
 [PV.agg
 [PV.rs 4 es1, PV.rs 3 es2, PV.rs 10 es3,
 PV.rs 3 es4, PV.rs 5 es5, PV.rs 4 es6,
 PV.rs 2 es7, PV.rs 3 es8, PV.rs 4 es9,
 PV.rs 6 es10, PV.int .i64 n11,
 PV.int .i64 n12,
 PV.int .i64 n13]]).bind
 fun r31 =>
 (rdL
 (FS.fn 63
 [FS.ptr [FS.raw], FS.ptr [FS.raw],
 FS.ptr [FS.raw]])
 r31).bind
 fun ls32 =>
 (Ab.asInt .i64 (ls20.getD 0 .bad)).bind
 fun n33 =>
 L.run (lint_Warnings_L8 L)
 (PV.agg [ls20.getD 1 .bad],
 PV.agg [ls20.getD 2 .bad], n33, 0,
 [ls20.getD 0 .bad, ls20.getD 1 .bad,
 ls20.getD 2 .bad],
 [ls22.getD 0 .bad, ls22.getD 1 .bad,
 ls22.getD 2 .bad],
 [ls24.getD 0 .bad, ls24.getD 1 .bad,
 ls24.getD 2 .bad],
 [ls26.getD 0 .bad, ls26.getD 1 .bad,
 ls26.getD 2 .bad],
 [ls28.getD 0 .bad, ls28.getD 1 .bad,
 ls28.getD 2 .bad, ls28.getD 3 .bad,
 ls28.getD 4 .bad, ls28.getD 5 .bad,
 ls28.getD 6 .bad, ls28.getD 7 .bad,
 ls28.getD 8 .bad, ls28.getD 9 .bad,
 ls28.getD 10 .bad, ls28.getD 11 .bad,
 ls28.getD 12 .bad, ls28.getD 13 .bad],
 [ls30.getD 0 .bad, ls30.getD 1 .bad,
 ls30.getD 2 .bad],
 [ls32.getD 0 .bad, ls32.getD 1 .bad,
 ls32.getD 2 .bad],
 [], ())
def lint_Warnings_M : List PV → Option PV
  | [p0] => lint_Warnings lpS p0
  | _ => none
def ref24_Same_L1 : (List PV × List PV × Int × Unit) → (List PV × List PV × Int × Unit → Option PV) → Option PV := fun s2 rec3 =>
 if decide (s2.2.2.1 < (↑s2.1.length : Int)) = true then
 (idxP s2.1 s2.2.2.1).bind fun p4 =>
 (idxP s2.2.1 s2.2.2.1).bind fun p5 =>
 if
 chk (Kd.int IntKind.i64 :: [].append (Kd.int IntKind.i64 :: [].append (Kd.int IntKind.i64 :: [].append [])))
 [cell p4 0, cell p4 1, cell p4 2] =
 true ∧
 chk (Kd.int IntKind.i64 :: [].append (Kd.int IntKind.i64 :: [].append (Kd.int IntKind.i64 :: [].append [])))
 [cell p5 0, cell p5 1, cell p5 2] =
 true then
 if (!peqL [cell p4 0, cell p4 1, cell p4 2] [cell p5 0, cell p5 1, cell p5 2]) = true then some (PV.bool false)
 else rec3 (s2.1, s2.2.1, IntKind.i64.wrap (s2.2.2.1 + 1), ())
 else none
else some (PV.bool true)
def ref24_Same (L : Lps) (p0 : PV) (p1 : PV) : Option PV :=
 (asSl 3 p0).bind fun es0 =>
 (asSl 3 p1).bind fun es1 =>
 if ((↑es0.length : Int) != (↑es1.length : Int)) = true then some (PV.bool false)
 else L.run ref24_Same_L1 (es0, es1, 0, ())
def ref24_Same_M : List PV → Option PV
  | [p0, p1] => ref24_Same lpS p0 p1
  | _ => none
def law24_exampleHolds (L : Lps) : Option PV :=
 (law24_example_M []).bind fun r0 =>
 (Ab.asAgg 13 r0).bind fun x1 =>
 (lint_Warnings_M
 [PV.agg
 [cell r0 0, cell r0 1, cell r0 2, cell r0 3, cell r0 4, cell r0 5, cell r0 6, cell r0 7, cell r0 8,
 cell r0 9, cell r0 10, cell r0 11, cell r0 12]]).bind
 fun r2 =>
 (asSl 3 r2).bind fun es3 =>
 (law24_to_M [PV.rs 3 es3]).bind fun r4 =>
 (asSl 3 r4).bind fun es5 =>
 (ref24_Same_M
 [PV.rs 3 es5,
 PV.rs 3
 [PV.agg [PV.int .i64 1, PV.int .i64 2, PV.int .i64 0],
 PV.agg [PV.int .i64 6, PV.int .i64 0, PV.int .i64 0],
 PV.agg [PV.int .i64 6, PV.int .i64 2, PV.int .i64 0],
 PV.agg [PV.int .i64 7, PV.int .i64 0, PV.int .i64 0]]]).bind
 fun r6 =>
 (Ab.asBool r6).bind fun b7 =>
 (bif b7 then
 (lint_Text_M
 [PV.agg
 [cell r0 0, cell r0 1, cell r0 2, cell r0 3, cell r0 4, cell r0 5, cell r0 6, cell r0 7,
 cell r0 8, cell r0 9, cell r0 10, cell r0 11, cell r0 12],
 PV.agg [PV.int .i64 1, PV.int .i64 2, PV.int .i64 0]]).bind
 fun r8 =>
 (asStr r8).bind fun s9 =>
 some
 (s9 ==
 [115, 116, 111, 112, 32, 99, 32, 105, 115, 32, 110, 111, 116, 32, 117, 115, 101, 100])
 else some false).bind
 fun r10 =>
 (bif r10 then
 (lint_Text_M
 [PV.agg
 [cell r0 0, cell r0 1, cell r0 2, cell r0 3, cell r0 4, cell r0 5, cell r0 6,
 cell r0 7, cell r0 8, cell r0 9, cell r0 10, cell r0 11, cell r0 12],
 PV.agg [PV.int .i64 1, PV.int .i64 0, PV.int .i64 1]]).bind
 fun r11 => (asStr r11).bind fun s12 => some (s12 == [])
 else some false).bind
 fun r13 =>
 (bif r13 then
 (lint_Text_M
 [PV.agg
 [cell r0 0, cell r0 1, cell r0 2, cell r0 3, cell r0 4, cell r0 5, cell r0 6,
 cell r0 7, cell r0 8, cell r0 9, cell r0 10, cell r0 11, cell r0 12],
 PV.agg [PV.int .i64 5, PV.int .i64 0, PV.int .i64 0]]).bind
 fun r14 =>
 (asStr r14).bind fun s15 =>
 some
 (s15 ==
 [116, 114, 105, 112, 32, 120, 32, 111, 118, 101, 114, 116, 97, 107, 101, 115, 32, 116,
 114, 105, 112, 32, 120])
 else some false).bind
 fun r16 => some (PV.bool r16)
def law24_exampleHolds_M : List PV → Option PV
  | [] => law24_exampleHolds lpS 
  | _ => none
def ref18_Sound (L : Lps) (p0 : PV) : Option PV :=
 (Ab.asAgg 4 p0).bind fun x0 =>
 (Ab.asInt .i64 (cell p0 0)).bind fun n1 =>
 (Ab.asInt .i64 (cell p0 1)).bind fun n2 =>
 (Ab.asInt .i64 (cell p0 2)).bind fun n3 =>
 (Ab.asInt .i64 (cell p0 3)).bind fun n4 =>
 (bif decide (n2 ≥ 0) then some (decide (n2 ≤ 172800)) else some false).bind fun r5 =>
 (bif r5 then some (decide (n3 ≥ 0)) else some false).bind fun r6 =>
 (bif r6 then some (decide (n3 ≤ 172800)) else some false).bind fun r7 =>
 (bif r7 then some (decide (n2 < n3)) else some false).bind fun r8 =>
 (bif r8 then some (decide (n4 ≥ 1)) else some false).bind fun r9 =>
 (bif r9 then some (decide (n4 ≤ 86400)) else some false).bind fun r10 => some (PV.bool r10)
def ref18_Sound_M : List PV → Option PV
  | [p0] => ref18_Sound lpS p0
  | _ => none
def ref18_count (L : Lps) (p0 : PV) : Option PV :=
 (Ab.asAgg 4 p0).bind fun x0 =>
 (Ab.asInt .i64 (cell p0 0)).bind fun n1 =>
 (Ab.asInt .i64 (cell p0 1)).bind fun n2 =>
 (Ab.asInt .i64 (cell p0 2)).bind fun n3 =>
 (Ab.asInt .i64 (cell p0 3)).bind fun n4 =>
 if n4 = 0 then none
 else
 some
 (PV.int .i64
 (IntKind.i64.wrap (IntKind.i64.wrap ((IntKind.i64.wrap (IntKind.i64.wrap (n3 - n2) - 1)).tdiv n4) + 1)))
def ref18_count_M : List PV → Option PV
  | [p0] => ref18_count lpS p0
  | _ => none
def ref18_Many_L1 : (List PV × Int × Int × Int × Unit) → (List PV × Int × Int × Int × Unit → Option PV) → Option PV := fun s2 rec3 =>
 if decide (s2.2.2.2.1 < (↑s2.1.length : Int)) = true then
 (idxP s2.1 s2.2.2.2.1).bind fun p4 =>
 (ref18_Sound_M [PV.agg [cell p4 0, cell p4 1, cell p4 2, cell p4 3]]).bind fun r5 =>
 (Ab.asBool r5).bind fun b6 =>
 if b6 = true then
 (idxP s2.1 s2.2.2.2.1).bind fun p7 =>
 (ref18_count_M [PV.agg [cell p7 0, cell p7 1, cell p7 2, cell p7 3]]).bind fun r8 =>
 (Ab.asInt .i64 r8).bind fun n9 =>
 rec3
 (s2.1, s2.2.1, IntKind.i64.wrap (s2.2.2.1 + n9),
 IntKind.i64.wrap (s2.2.2.2.1 + 1), ())
 else rec3 (s2.1, s2.2.1, s2.2.2.1, IntKind.i64.wrap (s2.2.2.2.1 + 1), ())
else some (PV.bool (decide (s2.2.2.1 > s2.2.1)))
def ref18_Many (L : Lps) (p0 : PV) (p1 : PV) : Option PV :=
 (asSl 4 p0).bind fun es0 =>
 (Ab.asInt .i64 p1).bind fun n1 =>
 if decide ((↑es0.length : Int) > 100) = true then some (PV.bool true) else L.run ref18_Many_L1 (es0, n1, 0, 0, ())
def ref18_Many_M : List PV → Option PV
  | [p0, p1] => ref18_Many lpS p0 p1
  | _ => none
def ref24_Large_L1 : (Int ×
 List PV ×
 List PV × List PV × List PV × List PV × List PV × List PV × List PV × List PV × List PV × Int × Int × Int × Unit) → (Int ×
 List PV ×
 List PV ×
 List PV × List PV × List PV × List PV × List PV × List PV × List PV × List PV × Int × Int × Int × Unit →
 Option PV) → Option PV := fun s25 rec26 =>
 if decide (s25.1 < (↑s25.2.2.2.2.2.1.length : Int)) = true then
 (idxP s25.2.2.2.2.2.1 s25.1).bind fun p27 =>
 (asSl 5 (cell p27 4)).bind fun es28 =>
 if decide ((↑es28.length : Int) > 40) = true then some (PV.bool true)
 else
 rec26
 (IntKind.i64.wrap (s25.1 + 1), s25.2.1, s25.2.2.1, s25.2.2.2.1, s25.2.2.2.2.1,
 s25.2.2.2.2.2.1, s25.2.2.2.2.2.2.1, s25.2.2.2.2.2.2.2.1,
 s25.2.2.2.2.2.2.2.2.1, s25.2.2.2.2.2.2.2.2.2.1,
 s25.2.2.2.2.2.2.2.2.2.2.1, s25.2.2.2.2.2.2.2.2.2.2.2.1,
 s25.2.2.2.2.2.2.2.2.2.2.2.2.1,
 s25.2.2.2.2.2.2.2.2.2.2.2.2.2.1, ())
else some (PV.bool false)
def ref24_Large (L : Lps) (p0 : PV) : Option PV :=
 (Ab.asAgg 13 p0).bind fun x0 =>
 (asSl 4 (cell p0 0)).bind fun es1 =>
 (asSl 3 (cell p0 1)).bind fun es2 =>
 (asSl 10 (cell p0 2)).bind fun es3 =>
 (asSl 3 (cell p0 3)).bind fun es4 =>
 (asSl 5 (cell p0 4)).bind fun es5 =>
 (asSl 4 (cell p0 5)).bind fun es6 =>
 (asSl 2 (cell p0 6)).bind fun es7 =>
 (asSl 3 (cell p0 7)).bind fun es8 =>
 (asSl 4 (cell p0 8)).bind fun es9 =>
 (asSl 6 (cell p0 9)).bind fun es10 =>
 (Ab.asInt .i64 (cell p0 10)).bind fun n11 =>
 (Ab.asInt .i64 (cell p0 11)).bind fun n12 =>
 (Ab.asInt .i64 (cell p0 12)).bind fun n13 =>
 (bif decide ((↑es1.length : Int) > 70) then some true
 else some (decide ((↑es2.length : Int) > 70))).bind
 fun r14 =>
 (bif r14 then some true else some (decide ((↑es3.length : Int) > 70))).bind fun r15 =>
 (bif r15 then some true else some (decide ((↑es4.length : Int) > 40))).bind fun r16 =>
 (bif r16 then some true else some (decide ((↑es5.length : Int) > 12))).bind fun r17 =>
 (bif r17 then some true else some (decide ((↑es7.length : Int) > 40))).bind
 fun r18 =>
 (bif r18 then some true else some (decide ((↑es8.length : Int) > 40))).bind
 fun r19 =>
 (bif r19 then some true else some (decide ((↑es9.length : Int) > 60))).bind
 fun r20 =>
 (bif r20 then some true else some (decide ((↑es10.length : Int) > 20))).bind
 fun r21 =>
 (bif r21 then some true
 else
 (ref18_Many_M [PV.rs 4 es6, PV.int .i64 600]).bind fun r22 =>
 (Ab.asBool r22).bind fun b23 => some b23).bind
 fun r24 =>
 if r24 = true then some (PV.bool true)
 else
 L.run ref24_Large_L1
 (0, es1, es2, es3, es4, es5, es6, es7, es8, es9, es10, n11, n12, n13,
 ())
def ref24_Large_M : List PV → Option PV
  | [p0] => ref24_Large lpS p0
  | _ => none
def ref24_Text (L : Lps) (p0 : PV) (p1 : PV) : Option PV :=
 (Ab.asAgg 13 p0).bind fun x0 =>
 (asSl 4 (cell p0 0)).bind fun es1 =>
 (asSl 3 (cell p0 1)).bind fun es2 =>
 (asSl 10 (cell p0 2)).bind fun es3 =>
 (asSl 3 (cell p0 3)).bind fun es4 =>
 (asSl 5 (cell p0 4)).bind fun es5 =>
 (asSl 4 (cell p0 5)).bind fun es6 =>
 (asSl 2 (cell p0 6)).bind fun es7 =>
 (asSl 3 (cell p0 7)).bind fun es8 =>
 (asSl 4 (cell p0 8)).bind fun es9 =>
 (asSl 6 (cell p0 9)).bind fun es10 =>
 (Ab.asInt .i64 (cell p0 10)).bind fun n11 =>
 (Ab.asInt .i64 (cell p0 11)).bind fun n12 =>
 (Ab.asInt .i64 (cell p0 12)).bind fun n13 =>
 (Ab.asAgg 3 p1).bind fun x14 =>
 (Ab.asInt .i64 (cell p1 0)).bind fun n15 =>
 (Ab.asInt .i64 (cell p1 1)).bind fun n16 =>
 (Ab.asInt .i64 (cell p1 2)).bind fun n17 =>
 (bif decide (n16 < 0) then some true
 else
 (bif n15 != 5 then some (n17 != 0) else some false).bind fun r18 =>
 some r18).bind
 fun r19 =>
 if r19 = true then some (PV.str [])
 else
 (bif n15 == 1 then some true else some (n15 == 6)).bind fun r20 =>
 (bif r20 then some (decide (n16 < (↑es1.length : Int))) else some false).bind
 fun r21 =>
 if r21 = true then
 if (n15 == 1) = true then
 (idxP es1 n16).bind fun p22 =>
 (asStr (cell p22 0)).bind fun s23 =>
 if L.room (5 + List.length s23) = true then
 if
 L.room (List.length ([115, 116, 111, 112, 32] ++ s23) + 12) =
 true then
 some
 (PV.str
 ([115, 116, 111, 112, 32] ++ s23 ++
 [32, 105, 115, 32, 110, 111, 116, 32, 117, 115, 101,
 100]))
 else none
 else none
 else
 (idxP es1 n16).bind fun p24 =>
 (asStr (cell p24 0)).bind fun s25 =>
 if L.room (5 + List.length s25) = true then
 if
 L.room (List.length ([115, 116, 111, 112, 32] ++ s25) + 18) =
 true then
 some
 (PV.str
 ([115, 116, 111, 112, 32] ++ s25 ++
 [32, 99, 97, 110, 110, 111, 116, 32, 98, 101, 32, 114,
 101, 97, 99, 104, 101, 100]))
 else none
 else none
 else
 (bif n15 == 2 then some true else some (n15 == 7)).bind fun r26 =>
 (bif r26 then some (decide (n16 < (↑es2.length : Int)))
 else some false).bind
 fun r27 =>
 if r27 = true then
 if (n15 == 2) = true then
 (idxP es2 n16).bind fun p28 =>
 (asStr (cell p28 0)).bind fun s29 =>
 if L.room (6 + List.length s29) = true then
 if
 L.room
 (List.length
 ([114, 111, 117, 116, 101, 32] ++ s29) +
 12) =
 true then
 some
 (PV.str
 ([114, 111, 117, 116, 101, 32] ++ s29 ++
 [32, 105, 115, 32, 110, 111, 116, 32, 117, 115, 101,
 100]))
 else none
 else none
 else
 (idxP es2 n16).bind fun p30 =>
 (asStr (cell p30 0)).bind fun s31 =>
 if L.room (6 + List.length s31) = true then
 if
 L.room
 (List.length
 ([114, 111, 117, 116, 101, 32] ++ s31) +
 15) =
 true then
 some
 (PV.str
 ([114, 111, 117, 116, 101, 32] ++ s31 ++
 [32, 104, 97, 115, 32, 110, 111, 32, 112, 114, 111,
 100, 117, 99, 116]))
 else none
 else none
 else
 (bif n15 == 3 then some (decide (n16 < (↑es3.length : Int)))
 else some false).bind
 fun r32 =>
 if r32 = true then
 (idxP es3 n16).bind fun p33 =>
 (asStr (cell p33 0)).bind fun s34 =>
 if L.room (9 + List.length s34) = true then
 if
 L.room
 (List.length
 ([99, 97, 108, 101, 110, 100, 97, 114, 32] ++
 s34) +
 12) =
 true then
 some
 (PV.str
 ([99, 97, 108, 101, 110, 100, 97, 114, 32] ++ s34 ++
 [32, 105, 115, 32, 110, 111, 116, 32, 117, 115,
 101, 100]))
 else none
 else none
 else
 (bif n15 == 4 then some (decide (n16 < (↑es5.length : Int)))
 else some false).bind
 fun r35 =>
 if r35 = true then
 (idxP es5 n16).bind fun p36 =>
 (asStr (cell p36 0)).bind fun s37 =>
 if L.room (5 + List.length s37) = true then
 if
 L.room
 (List.length
 ([116, 114, 105, 112, 32] ++ s37) +
 11) =
 true then
 some
 (PV.str
 ([116, 114, 105, 112, 32] ++ s37 ++
 [32, 110, 101, 118, 101, 114, 32, 114, 117,
 110, 115]))
 else none
 else none
 else
 (bif n15 == 5 then some (decide (n16 < (↑es5.length : Int)))
 else some false).bind
 fun r38 =>
 (bif r38 then some (decide (n17 ≥ 0))
 else some false).bind
 fun r39 =>
 (bif r39 then some (decide (n17 < (↑es5.length : Int)))
 else some false).bind
 fun r40 =>
 if r40 = true then
 (idxP es5 n16).bind fun p41 =>
 (asStr (cell p41 0)).bind fun s42 =>
 if L.room (5 + List.length s42) = true then
 if
 L.room
 (List.length
 ([116, 114, 105, 112, 32] ++
 s42) +
 16) =
 true then
 (idxP es5 n17).bind fun p43 =>
 (asStr (cell p43 0)).bind fun s44 =>
 if
 L.room
 (List.length
 ([116, 114, 105, 112, 32] ++
 s42 ++
 [32, 111, 118, 101, 114,
 116, 97, 107, 101, 115,
 32, 116, 114, 105, 112,
 32]) +
 List.length s44) =
 true then
 some
 (PV.str
 ([116, 114, 105, 112, 32] ++
 s42 ++
 [32, 111, 118, 101, 114, 116,
 97, 107, 101, 115, 32, 116,
 114, 105, 112, 32] ++
 s44))
 else none
 else none
 else none
 else some (PV.str [])
def ref24_Text_M : List PV → Option PV
  | [p0, p1] => ref24_Text lpS p0 p1
  | _ => none
def law24_LintTexts (L : Lps) (p0 : PV) (p1 : PV) : Option PV :=
 (Ab.asAgg 13 p0).bind fun x0 =>
 (asSl 4 (cell p0 0)).bind fun es1 =>
 (asSl 3 (cell p0 1)).bind fun es2 =>
 (asSl 10 (cell p0 2)).bind fun es3 =>
 (asSl 3 (cell p0 3)).bind fun es4 =>
 (asSl 5 (cell p0 4)).bind fun es5 =>
 (asSl 4 (cell p0 5)).bind fun es6 =>
 (asSl 2 (cell p0 6)).bind fun es7 =>
 (asSl 3 (cell p0 7)).bind fun es8 =>
 (asSl 4 (cell p0 8)).bind fun es9 =>
 (asSl 6 (cell p0 9)).bind fun es10 =>
 (Ab.asInt .i64 (cell p0 10)).bind fun n11 =>
 (Ab.asInt .i64 (cell p0 11)).bind fun n12 =>
 (Ab.asInt .i64 (cell p0 12)).bind fun n13 =>
 (Ab.asAgg 3 p1).bind fun x14 =>
 (Ab.asInt .i64 (cell p1 0)).bind fun n15 =>
 (Ab.asInt .i64 (cell p1 1)).bind fun n16 =>
 (Ab.asInt .i64 (cell p1 2)).bind fun n17 =>
 (ref24_Large_M
 [PV.agg
 [PV.rs 4 es1, PV.rs 3 es2, PV.rs 10 es3, PV.rs 3 es4, PV.rs 5 es5,
 PV.rs 4 es6, PV.rs 2 es7, PV.rs 3 es8, PV.rs 4 es9, PV.rs 6 es10,
 PV.int .i64 n11, PV.int .i64 n12,
 PV.int .i64 n13]]).bind
 fun r18 =>
 (Ab.asBool r18).bind fun b19 =>
 (bif b19 then some true
 else
 (lint_Text_M
 [PV.agg
 [PV.rs 4 es1, PV.rs 3 es2, PV.rs 10 es3, PV.rs 3 es4,
 PV.rs 5 es5, PV.rs 4 es6, PV.rs 2 es7, PV.rs 3 es8,
 PV.rs 4 es9, PV.rs 6 es10, PV.int .i64 n11,
 PV.int .i64 n12, PV.int .i64 n13],
 PV.agg
 [PV.int .i64 n15, PV.int .i64 n16,
 PV.int .i64 n17]]).bind
 fun r20 =>
 (asStr r20).bind fun s21 =>
 (ref24_Text_M
 [PV.agg
 [PV.rs 4 es1, PV.rs 3 es2, PV.rs 10 es3, PV.rs 3 es4,
 PV.rs 5 es5, PV.rs 4 es6, PV.rs 2 es7, PV.rs 3 es8,
 PV.rs 4 es9, PV.rs 6 es10, PV.int .i64 n11,
 PV.int .i64 n12, PV.int .i64 n13],
 PV.agg
 [PV.int .i64 n15, PV.int .i64 n16,
 PV.int .i64 n17]]).bind
 fun r22 => (asStr r22).bind fun s23 => some (s21 == s23)).bind
 fun r24 =>
 (bif r24 then
 (law24_exampleHolds_M []).bind fun r25 =>
 (Ab.asBool r25).bind fun b26 => some b26
 else some false).bind
 fun r27 => some (PV.bool r27)
def law24_LintTexts_M : List PV → Option PV
  | [p0, p1] => law24_LintTexts lpS p0 p1
  | _ => none
end Go.Ab
