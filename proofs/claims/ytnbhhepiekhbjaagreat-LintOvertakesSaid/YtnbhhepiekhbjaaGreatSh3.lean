/- Functions of the program as plain Lean functions, printed by a program of the author. -/
import Derived.Test.YtnbhhepiekhbjaaGreatSh2
set_option linter.unusedVariables false
namespace Go.Ab
def ref24_Valid (L : Lps) (p0 : PV) : Option PV :=
 (Ab.asAgg 13 p0).bind fun x0 =>
 (asSl 4 (cell p0 0)).bind fun es1 =>
 (asSl 3 (cell p0 1)).bind fun es2 =>
 (asSl 10 (cell p0 2)).bind fun es3 =>
 (asSl 3 (cell p0 3)).bind fun es4 =>
 (asSl 5 (cell p0 4)).bind fun es5 =>
 (asSl 4 (cell p0 5)).bind fun es6 =>
 (asSl 2 (cell p0 6)).bind fun es7 =>
 (asSl 3 (cell p0 7)).bind fun es8 =>
 (asSl 4 (cell p0 8)).bind fun es9 =>
 (asSl 6 (cell p0 9)).bind fun es10 =>
 (Ab.asInt .i64 (cell p0 10)).bind fun n11 =>
 (Ab.asInt .i64 (cell p0 11)).bind fun n12 =>
 (Ab.asInt .i64 (cell p0 12)).bind fun n13 =>
 (ref13_Check_M [PV.rs 4 es1]).bind fun r14 =>
 (asTup 2 r14).bind fun vs15 =>
 (Ab.asInt .i64 (vs15.getD 0 .bad)).bind fun n16 =>
 (Ab.asInt .i64 (vs15.getD 1 .bad)).bind fun n17 =>
 (ref15_Check_M [PV.rs 3 es2]).bind fun r18 =>
 (asTup 2 r18).bind fun vs19 =>
 (Ab.asInt .i64 (vs19.getD 0 .bad)).bind fun n20 =>
 (Ab.asInt .i64 (vs19.getD 1 .bad)).bind fun n21 =>
 (ref14_Check_M [PV.rs 10 es3]).bind fun r22 =>
 (asTup 2 r22).bind fun vs23 =>
 (Ab.asInt .i64 (vs23.getD 0 .bad)).bind fun n24 =>
 (Ab.asInt .i64 (vs23.getD 1 .bad)).bind fun n25 =>
 (ref14_CheckExceptions_M
 [PV.rs 3 es4, PV.int .i64 (↑es3.length : Int)]).bind
 fun r26 =>
 (asTup 2 r26).bind fun vs27 =>
 (Ab.asInt .i64 (vs27.getD 0 .bad)).bind fun n28 =>
 (Ab.asInt .i64 (vs27.getD 1 .bad)).bind fun n29 =>
 (bif n17 != 0 then some true else some (n21 != 0)).bind
 fun r30 =>
 (bif r30 then some true else some (n25 != 0)).bind
 fun r31 =>
 (bif r31 then some true else some (n29 != 0)).bind
 fun r32 =>
 if r32 = true then some (PV.bool false)
 else
 (ref17_Check_M
 [PV.rs 5 es5,
 PV.int .i64 (↑es1.length : Int),
 PV.int .i64 (↑es2.length : Int),
 PV.int .i64
 (↑es3.length : Int)]).bind
 fun r33 =>
 (asTup 2 r33).bind fun vs34 =>
 (Ab.asInt .i64 (vs34.getD 0 .bad)).bind
 fun n35 =>
 (Ab.asInt .i64
 (vs34.getD 1 .bad)).bind
 fun n36 =>
 if (n36 != 0) = true then
 some (PV.bool false)
 else
 (ref18_Check_M
 [PV.rs 4 es6, PV.rs 5 es5]).bind
 fun r37 =>
 (asTup 2 r37).bind fun vs38 =>
 (Ab.asInt .i64
 (vs38.getD 0 .bad)).bind
 fun n39 =>
 (Ab.asInt .i64
 (vs38.getD 1 .bad)).bind
 fun n40 =>
 (ref19_Check_M
 [PV.rs 2 es7, PV.rs 5 es5,
 PV.rs 4 es6]).bind
 fun r41 =>
 (asTup 2 r41).bind fun vs42 =>
 (Ab.asInt .i64
 (vs42.getD 0
 .bad)).bind
 fun n43 =>
 (Ab.asInt .i64
 (vs42.getD 1
 .bad)).bind
 fun n44 =>
 (ref19_CheckGuarantees_M
 [PV.rs 3 es8,
 PV.rs 5 es5,
 PV.rs 4 es6,
 PV.int .i64
 (↑es1.length :
 Int)]).bind
 fun r45 =>
 (asTup 2 r45).bind
 fun vs46 =>
 (Ab.asInt .i64
 (vs46.getD 0
 .bad)).bind
 fun n47 =>
 (Ab.asInt
 IntKind.i64
 (vs46.getD 1
 .bad)).bind
 fun n48 =>
 (ref20_Check_M
 [PV.rs 4
 es9,
 PV.int
 IntKind.i64
 (↑es1.length :
 Int)]).bind
 fun r49 =>
 (asTup 2
 r49).bind
 fun vs50 =>
 (Ab.asInt
 IntKind.i64
 (vs50.getD
 0
 .bad)).bind
 fun n51 =>
 (Ab.asInt
 IntKind.i64
 (vs50.getD
 1
 .bad)).bind
 fun n52 =>
 (ref21_Check_M
 [PV.agg
 [PV.rs
 6
 es10,
 PV.int
 IntKind.i64
 n11,
 PV.int
 IntKind.i64
 n12,
 PV.int
 IntKind.i64
 n13]]).bind
 fun
 r53 =>
 (asTup 2
 r53).bind
 fun
 vs54 =>
 (Ab.asInt
 IntKind.i64
 (vs54.getD
 0
 .bad)).bind
 fun
 n55 =>
 (Ab.asInt
 IntKind.i64
 (vs54.getD
 1
 .bad)).bind
 fun
 n56 =>
 (bif
 n40 ==
 0 then
 some
 (n44 ==
 0)
 else
 some
 false).bind
 fun
 r57 =>
 (bif
 r57 then
 some
 (n48 ==
 0)
 else
 some
 false).bind
 fun
 r58 =>
 (bif
 r58 then
 some
 (n52 ==
 0)
 else
 some
 false).bind
 fun
 r59 =>
 (bif
 r59 then
 some
 (n56 ==
 0)
 else
 some
 false).bind
 fun
 r60 =>
 some
 (PV.bool
 r60)
def ref24_Valid_M : List PV → Option PV
  | [p0] => ref24_Valid lpS p0
  | _ => none
def ref24_Warnings_L1 (L : Lps) (rec19 : Int ×
 Int ×
 Int ×
 List PV ×
 List PV ×
 List PV ×
 List PV × List PV × List PV × List PV × List PV × List PV × List PV × Int × Int × Int × List PV × Unit →
 Option PV) : (Int ×
 Int ×
 Int ×
 Int ×
 List PV ×
 List PV ×
 List PV ×
 List PV × List PV × List PV × List PV × List PV × List PV × List PV × Int × Int × Int × List PV × Unit) → (Int ×
 Int ×
 Int ×
 Int ×
 List PV ×
 List PV ×
 List PV ×
 List PV ×
 List PV × List PV × List PV × List PV × List PV × List PV × Int × Int × Int × List PV × Unit →
 Option PV) → Option PV := fun s20 rec21 =>
 (bif decide (s20.2.2.2.1 < (↑s20.2.2.2.2.2.2.2.2.1.length : Int)) then some true
 else some (decide (s20.2.2.2.1 < 1))).bind
 fun r22 =>
 if r22 = true then
 (ref24_Holds_M
 [PV.agg
 [PV.rs 4 s20.2.2.2.2.1, PV.rs 3 s20.2.2.2.2.2.1,
 PV.rs 10 s20.2.2.2.2.2.2.1, PV.rs 3 s20.2.2.2.2.2.2.2.1,
 PV.rs 5 s20.2.2.2.2.2.2.2.2.1, PV.rs 4 s20.2.2.2.2.2.2.2.2.2.1,
 PV.rs 2 s20.2.2.2.2.2.2.2.2.2.2.1,
 PV.rs 3 s20.2.2.2.2.2.2.2.2.2.2.2.1,
 PV.rs 4 s20.2.2.2.2.2.2.2.2.2.2.2.2.1,
 PV.rs 6 s20.2.2.2.2.2.2.2.2.2.2.2.2.2.1,
 PV.int .i64 s20.2.2.2.2.2.2.2.2.2.2.2.2.2.2.1,
 PV.int .i64 s20.2.2.2.2.2.2.2.2.2.2.2.2.2.2.2.1,
 PV.int .i64 s20.2.2.2.2.2.2.2.2.2.2.2.2.2.2.2.2.1],
 PV.agg
 [PV.int .i64 s20.2.1, PV.int .i64 s20.2.2.1,
 PV.int .i64 s20.2.2.2.1]]).bind
 fun r23 =>
 (Ab.asBool r23).bind fun b24 =>
 if b24 = true then
 if
 (s20.2.2.2.2.2.2.2.2.2.2.2.2.2.2.2.2.2.1 ++
 [PV.agg
 [PV.int .i64 s20.2.1, PV.int .i64 s20.2.2.1,
 PV.int .i64 s20.2.2.2.1]]).length *
 24 ≤
 roomBound ∧
 0 < 24 then
 rec21
 (s20.1, s20.2.1, s20.2.2.1, IntKind.i64.wrap (s20.2.2.2.1 + 1),
 s20.2.2.2.2.1, s20.2.2.2.2.2.1, s20.2.2.2.2.2.2.1,
 s20.2.2.2.2.2.2.2.1, s20.2.2.2.2.2.2.2.2.1,
 s20.2.2.2.2.2.2.2.2.2.1, s20.2.2.2.2.2.2.2.2.2.2.1,
 s20.2.2.2.2.2.2.2.2.2.2.2.1,
 s20.2.2.2.2.2.2.2.2.2.2.2.2.1,
 s20.2.2.2.2.2.2.2.2.2.2.2.2.2.1,
 s20.2.2.2.2.2.2.2.2.2.2.2.2.2.2.1,
 s20.2.2.2.2.2.2.2.2.2.2.2.2.2.2.2.1,
 s20.2.2.2.2.2.2.2.2.2.2.2.2.2.2.2.2.1,
 s20.2.2.2.2.2.2.2.2.2.2.2.2.2.2.2.2.2.1 ++
 [PV.agg
 [PV.int .i64 s20.2.1, PV.int .i64 s20.2.2.1,
 PV.int .i64 s20.2.2.2.1]],
 ())
 else none
 else
 rec21
 (s20.1, s20.2.1, s20.2.2.1, IntKind.i64.wrap (s20.2.2.2.1 + 1), s20.2.2.2.2.1,
 s20.2.2.2.2.2.1, s20.2.2.2.2.2.2.1, s20.2.2.2.2.2.2.2.1,
 s20.2.2.2.2.2.2.2.2.1, s20.2.2.2.2.2.2.2.2.2.1,
 s20.2.2.2.2.2.2.2.2.2.2.1, s20.2.2.2.2.2.2.2.2.2.2.2.1,
 s20.2.2.2.2.2.2.2.2.2.2.2.2.1,
 s20.2.2.2.2.2.2.2.2.2.2.2.2.2.1,
 s20.2.2.2.2.2.2.2.2.2.2.2.2.2.2.1,
 s20.2.2.2.2.2.2.2.2.2.2.2.2.2.2.2.1,
 s20.2.2.2.2.2.2.2.2.2.2.2.2.2.2.2.2.1,
 s20.2.2.2.2.2.2.2.2.2.2.2.2.2.2.2.2.2.1, ())
 else
 rec19
 (s20.1, s20.2.1, IntKind.i64.wrap (s20.2.2.1 + 1), s20.2.2.2.2.1,
 s20.2.2.2.2.2.1, s20.2.2.2.2.2.2.1, s20.2.2.2.2.2.2.2.1,
 s20.2.2.2.2.2.2.2.2.1, s20.2.2.2.2.2.2.2.2.2.1,
 s20.2.2.2.2.2.2.2.2.2.2.1, s20.2.2.2.2.2.2.2.2.2.2.2.1,
 s20.2.2.2.2.2.2.2.2.2.2.2.2.1,
 s20.2.2.2.2.2.2.2.2.2.2.2.2.2.1,
 s20.2.2.2.2.2.2.2.2.2.2.2.2.2.2.1,
 s20.2.2.2.2.2.2.2.2.2.2.2.2.2.2.2.1,
 s20.2.2.2.2.2.2.2.2.2.2.2.2.2.2.2.2.1,
 s20.2.2.2.2.2.2.2.2.2.2.2.2.2.2.2.2.2.1, ())
def ref24_Warnings_L2 (L : Lps) (rec17 : Int ×
 Int ×
 List PV ×
 List PV ×
 List PV ×
 List PV × List PV × List PV × List PV × List PV × List PV × List PV × Int × Int × Int × List PV × Unit →
 Option PV) : (Int ×
 Int ×
 Int ×
 List PV ×
 List PV ×
 List PV ×
 List PV × List PV × List PV × List PV × List PV × List PV × List PV × Int × Int × Int × List PV × Unit) → (Int ×
 Int ×
 Int ×
 List PV ×
 List PV ×
 List PV ×
 List PV × List PV × List PV × List PV × List PV × List PV × List PV × Int × Int × Int × List PV × Unit →
 Option PV) → Option PV := fun s18 rec19 =>
 if decide (s18.2.2.1 < s18.1) = true then
 L.run (ref24_Warnings_L1 L rec19)
 (s18.1, s18.2.1, s18.2.2.1, 0, s18.2.2.2.1, s18.2.2.2.2.1,
 s18.2.2.2.2.2.1, s18.2.2.2.2.2.2.1, s18.2.2.2.2.2.2.2.1,
 s18.2.2.2.2.2.2.2.2.1, s18.2.2.2.2.2.2.2.2.2.1,
 s18.2.2.2.2.2.2.2.2.2.2.1, s18.2.2.2.2.2.2.2.2.2.2.2.1,
 s18.2.2.2.2.2.2.2.2.2.2.2.2.1,
 s18.2.2.2.2.2.2.2.2.2.2.2.2.2.1,
 s18.2.2.2.2.2.2.2.2.2.2.2.2.2.2.1,
 s18.2.2.2.2.2.2.2.2.2.2.2.2.2.2.2.1,
 s18.2.2.2.2.2.2.2.2.2.2.2.2.2.2.2.2.1, ())
else
 rec17
 (s18.1, IntKind.i64.wrap (s18.2.1 + 1), s18.2.2.2.1, s18.2.2.2.2.1,
 s18.2.2.2.2.2.1, s18.2.2.2.2.2.2.1, s18.2.2.2.2.2.2.2.1,
 s18.2.2.2.2.2.2.2.2.1, s18.2.2.2.2.2.2.2.2.2.1,
 s18.2.2.2.2.2.2.2.2.2.2.1, s18.2.2.2.2.2.2.2.2.2.2.2.1,
 s18.2.2.2.2.2.2.2.2.2.2.2.2.1,
 s18.2.2.2.2.2.2.2.2.2.2.2.2.2.1,
 s18.2.2.2.2.2.2.2.2.2.2.2.2.2.2.1,
 s18.2.2.2.2.2.2.2.2.2.2.2.2.2.2.2.1,
 s18.2.2.2.2.2.2.2.2.2.2.2.2.2.2.2.2.1, ())
def ref24_Warnings_L3 (L : Lps) : (Int ×
 Int ×
 List PV ×
 List PV ×
 List PV ×
 List PV × List PV × List PV × List PV × List PV × List PV × List PV × Int × Int × Int × List PV × Unit) → (Int ×
 Int ×
 List PV ×
 List PV ×
 List PV ×
 List PV × List PV × List PV × List PV × List PV × List PV × List PV × Int × Int × Int × List PV × Unit →
 Option PV) → Option PV := fun s16 rec17 =>
 if decide (s16.2.1 ≤ 7) = true then
 L.run (ref24_Warnings_L2 L rec17)
 (s16.1, s16.2.1, 0, s16.2.2.1, s16.2.2.2.1, s16.2.2.2.2.1,
 s16.2.2.2.2.2.1, s16.2.2.2.2.2.2.1, s16.2.2.2.2.2.2.2.1,
 s16.2.2.2.2.2.2.2.2.1, s16.2.2.2.2.2.2.2.2.2.1,
 s16.2.2.2.2.2.2.2.2.2.2.1, s16.2.2.2.2.2.2.2.2.2.2.2.1,
 s16.2.2.2.2.2.2.2.2.2.2.2.2.1,
 s16.2.2.2.2.2.2.2.2.2.2.2.2.2.1,
 s16.2.2.2.2.2.2.2.2.2.2.2.2.2.2.1,
 s16.2.2.2.2.2.2.2.2.2.2.2.2.2.2.2.1, ())
else some (PV.rs 3 s16.2.2.2.2.2.2.2.2.2.2.2.2.2.2.2.1)
def ref24_Warnings (L : Lps) (p0 : PV) : Option PV :=
 (Ab.asAgg 13 p0).bind fun x0 =>
 (asSl 4 (cell p0 0)).bind fun es1 =>
 (asSl 3 (cell p0 1)).bind fun es2 =>
 (asSl 10 (cell p0 2)).bind fun es3 =>
 (asSl 3 (cell p0 3)).bind fun es4 =>
 (asSl 5 (cell p0 4)).bind fun es5 =>
 (asSl 4 (cell p0 5)).bind fun es6 =>
 (asSl 2 (cell p0 6)).bind fun es7 =>
 (asSl 3 (cell p0 7)).bind fun es8 =>
 (asSl 4 (cell p0 8)).bind fun es9 =>
 (asSl 6 (cell p0 9)).bind fun es10 =>
 (Ab.asInt .i64 (cell p0 10)).bind fun n11 =>
 (Ab.asInt .i64 (cell p0 11)).bind fun n12 =>
 (Ab.asInt .i64 (cell p0 12)).bind fun n13 =>
 (ref24_Valid_M
 [PV.agg
 [PV.rs 4 es1, PV.rs 3 es2, PV.rs 10 es3, PV.rs 3 es4, PV.rs 5 es5, PV.rs 4 es6,
 PV.rs 2 es7, PV.rs 3 es8, PV.rs 4 es9, PV.rs 6 es10, PV.int .i64 n11,
 PV.int .i64 n12, PV.int .i64 n13]]).bind
 fun r14 =>
 (Ab.asBool r14).bind fun b15 =>
 if (!b15) = true then some (PV.rs 3 [])
 else
 L.run (ref24_Warnings_L3 L)
 (if
 (↑es5.length : Int) >
 if
 (↑es3.length : Int) >
 if (↑es2.length : Int) > (↑es1.length : Int) then (↑es2.length : Int)
 else (↑es1.length : Int) then
 (↑es3.length : Int)
 else
 if (↑es2.length : Int) > (↑es1.length : Int) then (↑es2.length : Int)
 else (↑es1.length : Int) then
 (↑es5.length : Int)
 else
 if
 (↑es3.length : Int) >
 if (↑es2.length : Int) > (↑es1.length : Int) then (↑es2.length : Int)
 else (↑es1.length : Int) then
 (↑es3.length : Int)
 else
 if (↑es2.length : Int) > (↑es1.length : Int) then (↑es2.length : Int)
 else (↑es1.length : Int),
 1, es1, es2, es3, es4, es5, es6, es7, es8, es9, es10, n11, n12, n13, [], ())
def ref24_Warnings_M : List PV → Option PV
  | [p0] => ref24_Warnings lpS p0
  | _ => none
def law24_LintWarns (L : Lps) (p0 : PV) : Option PV :=
 (Ab.asAgg 13 p0).bind fun x0 =>
 (asSl 4 (cell p0 0)).bind fun es1 =>
 (asSl 3 (cell p0 1)).bind fun es2 =>
 (asSl 10 (cell p0 2)).bind fun es3 =>
 (asSl 3 (cell p0 3)).bind fun es4 =>
 (asSl 5 (cell p0 4)).bind fun es5 =>
 (asSl 4 (cell p0 5)).bind fun es6 =>
 (asSl 2 (cell p0 6)).bind fun es7 =>
 (asSl 3 (cell p0 7)).bind fun es8 =>
 (asSl 4 (cell p0 8)).bind fun es9 =>
 (asSl 6 (cell p0 9)).bind fun es10 =>
 (Ab.asInt .i64 (cell p0 10)).bind fun n11 =>
 (Ab.asInt .i64 (cell p0 11)).bind fun n12 =>
 (Ab.asInt .i64 (cell p0 12)).bind fun n13 =>
 (ref24_Large_M
 [PV.agg
 [PV.rs 4 es1, PV.rs 3 es2, PV.rs 10 es3, PV.rs 3 es4, PV.rs 5 es5, PV.rs 4 es6,
 PV.rs 2 es7, PV.rs 3 es8, PV.rs 4 es9, PV.rs 6 es10, PV.int .i64 n11,
 PV.int .i64 n12, PV.int .i64 n13]]).bind
 fun r14 =>
 (Ab.asBool r14).bind fun b15 =>
 (bif b15 then some true
 else
 (lint_Warnings_M
 [PV.agg
 [PV.rs 4 es1, PV.rs 3 es2, PV.rs 10 es3, PV.rs 3 es4, PV.rs 5 es5,
 PV.rs 4 es6, PV.rs 2 es7, PV.rs 3 es8, PV.rs 4 es9, PV.rs 6 es10,
 PV.int .i64 n11, PV.int .i64 n12,
 PV.int .i64 n13]]).bind
 fun r16 =>
 (asSl 3 r16).bind fun es17 =>
 (law24_to_M [PV.rs 3 es17]).bind fun r18 =>
 (asSl 3 r18).bind fun es19 =>
 (ref24_Warnings_M
 [PV.agg
 [PV.rs 4 es1, PV.rs 3 es2, PV.rs 10 es3, PV.rs 3 es4,
 PV.rs 5 es5, PV.rs 4 es6, PV.rs 2 es7, PV.rs 3 es8,
 PV.rs 4 es9, PV.rs 6 es10, PV.int .i64 n11,
 PV.int .i64 n12, PV.int .i64 n13]]).bind
 fun r20 =>
 (asSl 3 r20).bind fun es21 =>
 (ref24_Same_M [PV.rs 3 es19, PV.rs 3 es21]).bind fun r22 =>
 (Ab.asBool r22).bind fun b23 => some b23).bind
 fun r24 =>
 (bif r24 then
 (law24_exampleHolds_M []).bind fun r25 =>
 (Ab.asBool r25).bind fun b26 => some b26
 else some false).bind
 fun r27 => some (PV.bool r27)
def law24_LintWarns_M : List PV → Option PV
  | [p0] => law24_LintWarns lpS p0
  | _ => none
def law24_LintSound_L1 : (List PV ×
 Int ×
 Int ×
 Int ×
 Int ×
 List PV ×
 List PV ×
 List PV × List PV × List PV × List PV × List PV × List PV × List PV × List PV × Int × Int × Int × Unit) → (List PV ×
 Int ×
 Int ×
 Int ×
 Int ×
 List PV ×
 List PV ×
 List PV ×
 List PV × List PV × List PV × List PV × List PV × List PV × List PV × Int × Int × Int × Unit →
 Option PV) → Option PV := fun s23 rec24 =>
 if decide (s23.2.2.2.2.1 < (↑s23.1.length : Int)) = true then
 (idxP s23.1 s23.2.2.2.2.1).bind fun p25 =>
 (Ab.asInt .i64 (cell p25 0)).bind fun n26 =>
 (Ab.asInt .i64 (cell p25 1)).bind fun n27 =>
 (Ab.asInt .i64 (cell p25 2)).bind fun n28 =>
 (ref24_Holds_M
 [PV.agg
 [PV.rs 4 s23.2.2.2.2.2.1, PV.rs 3 s23.2.2.2.2.2.2.1,
 PV.rs 10 s23.2.2.2.2.2.2.2.1, PV.rs 3 s23.2.2.2.2.2.2.2.2.1,
 PV.rs 5 s23.2.2.2.2.2.2.2.2.2.1,
 PV.rs 4 s23.2.2.2.2.2.2.2.2.2.2.1,
 PV.rs 2 s23.2.2.2.2.2.2.2.2.2.2.2.1,
 PV.rs 3 s23.2.2.2.2.2.2.2.2.2.2.2.2.1,
 PV.rs 4 s23.2.2.2.2.2.2.2.2.2.2.2.2.2.1,
 PV.rs 6 s23.2.2.2.2.2.2.2.2.2.2.2.2.2.2.1,
 PV.int .i64 s23.2.2.2.2.2.2.2.2.2.2.2.2.2.2.2.1,
 PV.int .i64 s23.2.2.2.2.2.2.2.2.2.2.2.2.2.2.2.2.1,
 PV.int .i64 s23.2.2.2.2.2.2.2.2.2.2.2.2.2.2.2.2.2.1],
 PV.agg [PV.int .i64 n26, PV.int .i64 n27, PV.int .i64 n28]]).bind
 fun r29 =>
 (Ab.asBool r29).bind fun b30 =>
 (bif !b30 then some true
 else
 (lint_Text_M
 [PV.agg
 [PV.rs 4 s23.2.2.2.2.2.1, PV.rs 3 s23.2.2.2.2.2.2.1,
 PV.rs 10 s23.2.2.2.2.2.2.2.1,
 PV.rs 3 s23.2.2.2.2.2.2.2.2.1,
 PV.rs 5 s23.2.2.2.2.2.2.2.2.2.1,
 PV.rs 4 s23.2.2.2.2.2.2.2.2.2.2.1,
 PV.rs 2 s23.2.2.2.2.2.2.2.2.2.2.2.1,
 PV.rs 3 s23.2.2.2.2.2.2.2.2.2.2.2.2.1,
 PV.rs 4 s23.2.2.2.2.2.2.2.2.2.2.2.2.2.1,
 PV.rs 6 s23.2.2.2.2.2.2.2.2.2.2.2.2.2.2.1,
 PV.int .i64 s23.2.2.2.2.2.2.2.2.2.2.2.2.2.2.2.1,
 PV.int .i64
 s23.2.2.2.2.2.2.2.2.2.2.2.2.2.2.2.2.1,
 PV.int .i64
 s23.2.2.2.2.2.2.2.2.2.2.2.2.2.2.2.2.2.1],
 PV.agg [cell p25 0, cell p25 1, cell p25 2]]).bind
 fun r31 => (asStr r31).bind fun s32 => some (s32 == [])).bind
 fun r33 =>
 if r33 = true then some (PV.bool false)
 else
 if decide (s23.2.2.2.2.1 > 0) = true then
 (idxP s23.1 (IntKind.i64.wrap (s23.2.2.2.2.1 - 1))).bind fun p34 =>
 (Ab.asInt .i64 (cell p34 0)).bind fun n35 =>
 (Ab.asInt .i64 (cell p25 0)).bind fun n36 =>
 (bif decide (n35 > n36) then some true
 else
 (Ab.asInt .i64 (cell p34 0)).bind fun n37 =>
 (Ab.asInt .i64 (cell p25 0)).bind fun n38 =>
 (bif n37 == n38 then
 (Ab.asInt .i64 (cell p34 1)).bind fun n39 =>
 (Ab.asInt .i64 (cell p25 1)).bind fun n40 =>
 (bif decide (n39 > n40) then some true
 else
 (Ab.asInt .i64 (cell p34 1)).bind fun n41 =>
 (Ab.asInt .i64 (cell p25 1)).bind fun n42 =>
 (bif n41 == n42 then
 (Ab.asInt .i64 (cell p34 2)).bind fun n43 =>
 (Ab.asInt .i64 (cell p25 2)).bind fun n44 =>
 some (decide (n43 ≥ n44))
 else some false).bind
 fun r45 => some r45).bind
 fun r46 => some r46
 else some false).bind
 fun r47 => some r47).bind
 fun r48 =>
 if r48 = true then some (PV.bool false)
 else
 (Ab.asInt .i64 (cell p25 0)).bind fun n49 =>
 if (n49 == 1) = true then
 rec24
 (s23.1, IntKind.i64.wrap (s23.2.1 + 1), s23.2.2.1, s23.2.2.2.1,
 IntKind.i64.wrap (s23.2.2.2.2.1 + 1), s23.2.2.2.2.2.1,
 s23.2.2.2.2.2.2.1, s23.2.2.2.2.2.2.2.1,
 s23.2.2.2.2.2.2.2.2.1,
 s23.2.2.2.2.2.2.2.2.2.1,
 s23.2.2.2.2.2.2.2.2.2.2.1,
 s23.2.2.2.2.2.2.2.2.2.2.2.1,
 s23.2.2.2.2.2.2.2.2.2.2.2.2.1,
 s23.2.2.2.2.2.2.2.2.2.2.2.2.2.1,
 s23.2.2.2.2.2.2.2.2.2.2.2.2.2.2.1,
 s23.2.2.2.2.2.2.2.2.2.2.2.2.2.2.2.1,
 s23.2.2.2.2.2.2.2.2.2.2.2.2.2.2.2.2.1,
 s23.2.2.2.2.2.2.2.2.2.2.2.2.2.2.2.2.2.1, ())
 else
 if (n49 == 2) = true then
 rec24
 (s23.1, s23.2.1, IntKind.i64.wrap (s23.2.2.1 + 1),
 s23.2.2.2.1, IntKind.i64.wrap (s23.2.2.2.2.1 + 1),
 s23.2.2.2.2.2.1, s23.2.2.2.2.2.2.1,
 s23.2.2.2.2.2.2.2.1, s23.2.2.2.2.2.2.2.2.1,
 s23.2.2.2.2.2.2.2.2.2.1,
 s23.2.2.2.2.2.2.2.2.2.2.1,
 s23.2.2.2.2.2.2.2.2.2.2.2.1,
 s23.2.2.2.2.2.2.2.2.2.2.2.2.1,
 s23.2.2.2.2.2.2.2.2.2.2.2.2.2.1,
 s23.2.2.2.2.2.2.2.2.2.2.2.2.2.2.1,
 s23.2.2.2.2.2.2.2.2.2.2.2.2.2.2.2.1,
 s23.2.2.2.2.2.2.2.2.2.2.2.2.2.2.2.2.1,
 s23.2.2.2.2.2.2.2.2.2.2.2.2.2.2.2.2.2.1, ())
 else
 if (n49 == 3) = true then
 rec24
 (s23.1, s23.2.1, s23.2.2.1,
 IntKind.i64.wrap (s23.2.2.2.1 + 1),
 IntKind.i64.wrap (s23.2.2.2.2.1 + 1), s23.2.2.2.2.2.1,
 s23.2.2.2.2.2.2.1, s23.2.2.2.2.2.2.2.1,
 s23.2.2.2.2.2.2.2.2.1,
 s23.2.2.2.2.2.2.2.2.2.1,
 s23.2.2.2.2.2.2.2.2.2.2.1,
 s23.2.2.2.2.2.2.2.2.2.2.2.1,
 s23.2.2.2.2.2.2.2.2.2.2.2.2.1,
 s23.2.2.2.2.2.2.2.2.2.2.2.2.2.1,
 s23.2.2.2.2.2.2.2.2.2.2.2.2.2.2.1,
 s23.2.2.2.2.2.2.2.2.2.2.2.2.2.2.2.1,
 s23.2.2.2.2.2.2.2.2.2.2.2.2.2.2.2.2.1,
 s23.2.2.2.2.2.2.2.2.2.2.2.2.2.2.2.2.2.1,
 ())
 else
 rec24
 (s23.1, s23.2.1, s23.2.2.1, s23.2.2.2.1,
 IntKind.i64.wrap (s23.2.2.2.2.1 + 1), s23.2.2.2.2.2.1,
 s23.2.2.2.2.2.2.1, s23.2.2.2.2.2.2.2.1,
 s23.2.2.2.2.2.2.2.2.1,
 s23.2.2.2.2.2.2.2.2.2.1,
 s23.2.2.2.2.2.2.2.2.2.2.1,
 s23.2.2.2.2.2.2.2.2.2.2.2.1,
 s23.2.2.2.2.2.2.2.2.2.2.2.2.1,
 s23.2.2.2.2.2.2.2.2.2.2.2.2.2.1,
 s23.2.2.2.2.2.2.2.2.2.2.2.2.2.2.1,
 s23.2.2.2.2.2.2.2.2.2.2.2.2.2.2.2.1,
 s23.2.2.2.2.2.2.2.2.2.2.2.2.2.2.2.2.1,
 s23.2.2.2.2.2.2.2.2.2.2.2.2.2.2.2.2.2.1,
 ())
 else
 (Ab.asInt .i64 (cell p25 0)).bind fun n50 =>
 if (n50 == 1) = true then
 rec24
 (s23.1, IntKind.i64.wrap (s23.2.1 + 1), s23.2.2.1, s23.2.2.2.1,
 IntKind.i64.wrap (s23.2.2.2.2.1 + 1), s23.2.2.2.2.2.1,
 s23.2.2.2.2.2.2.1, s23.2.2.2.2.2.2.2.1,
 s23.2.2.2.2.2.2.2.2.1, s23.2.2.2.2.2.2.2.2.2.1,
 s23.2.2.2.2.2.2.2.2.2.2.1,
 s23.2.2.2.2.2.2.2.2.2.2.2.1,
 s23.2.2.2.2.2.2.2.2.2.2.2.2.1,
 s23.2.2.2.2.2.2.2.2.2.2.2.2.2.1,
 s23.2.2.2.2.2.2.2.2.2.2.2.2.2.2.1,
 s23.2.2.2.2.2.2.2.2.2.2.2.2.2.2.2.1,
 s23.2.2.2.2.2.2.2.2.2.2.2.2.2.2.2.2.1,
 s23.2.2.2.2.2.2.2.2.2.2.2.2.2.2.2.2.2.1, ())
 else
 if (n50 == 2) = true then
 rec24
 (s23.1, s23.2.1, IntKind.i64.wrap (s23.2.2.1 + 1), s23.2.2.2.1,
 IntKind.i64.wrap (s23.2.2.2.2.1 + 1), s23.2.2.2.2.2.1,
 s23.2.2.2.2.2.2.1, s23.2.2.2.2.2.2.2.1,
 s23.2.2.2.2.2.2.2.2.1, s23.2.2.2.2.2.2.2.2.2.1,
 s23.2.2.2.2.2.2.2.2.2.2.1,
 s23.2.2.2.2.2.2.2.2.2.2.2.1,
 s23.2.2.2.2.2.2.2.2.2.2.2.2.1,
 s23.2.2.2.2.2.2.2.2.2.2.2.2.2.1,
 s23.2.2.2.2.2.2.2.2.2.2.2.2.2.2.1,
 s23.2.2.2.2.2.2.2.2.2.2.2.2.2.2.2.1,
 s23.2.2.2.2.2.2.2.2.2.2.2.2.2.2.2.2.1,
 s23.2.2.2.2.2.2.2.2.2.2.2.2.2.2.2.2.2.1, ())
 else
 if (n50 == 3) = true then
 rec24
 (s23.1, s23.2.1, s23.2.2.1, IntKind.i64.wrap (s23.2.2.2.1 + 1),
 IntKind.i64.wrap (s23.2.2.2.2.1 + 1), s23.2.2.2.2.2.1,
 s23.2.2.2.2.2.2.1, s23.2.2.2.2.2.2.2.1,
 s23.2.2.2.2.2.2.2.2.1, s23.2.2.2.2.2.2.2.2.2.1,
 s23.2.2.2.2.2.2.2.2.2.2.1,
 s23.2.2.2.2.2.2.2.2.2.2.2.1,
 s23.2.2.2.2.2.2.2.2.2.2.2.2.1,
 s23.2.2.2.2.2.2.2.2.2.2.2.2.2.1,
 s23.2.2.2.2.2.2.2.2.2.2.2.2.2.2.1,
 s23.2.2.2.2.2.2.2.2.2.2.2.2.2.2.2.1,
 s23.2.2.2.2.2.2.2.2.2.2.2.2.2.2.2.2.1,
 s23.2.2.2.2.2.2.2.2.2.2.2.2.2.2.2.2.2.1, ())
 else
 rec24
 (s23.1, s23.2.1, s23.2.2.1, s23.2.2.2.1,
 IntKind.i64.wrap (s23.2.2.2.2.1 + 1), s23.2.2.2.2.2.1,
 s23.2.2.2.2.2.2.1, s23.2.2.2.2.2.2.2.1,
 s23.2.2.2.2.2.2.2.2.1, s23.2.2.2.2.2.2.2.2.2.1,
 s23.2.2.2.2.2.2.2.2.2.2.1,
 s23.2.2.2.2.2.2.2.2.2.2.2.1,
 s23.2.2.2.2.2.2.2.2.2.2.2.2.1,
 s23.2.2.2.2.2.2.2.2.2.2.2.2.2.1,
 s23.2.2.2.2.2.2.2.2.2.2.2.2.2.2.1,
 s23.2.2.2.2.2.2.2.2.2.2.2.2.2.2.2.1,
 s23.2.2.2.2.2.2.2.2.2.2.2.2.2.2.2.2.1,
 s23.2.2.2.2.2.2.2.2.2.2.2.2.2.2.2.2.2.1, ())
else
 (bif decide (s23.2.1 ≤ (↑s23.2.2.2.2.2.1.length : Int)) then
 some (decide (s23.2.2.1 ≤ (↑s23.2.2.2.2.2.2.1.length : Int)))
 else some false).bind
 fun r51 =>
 (bif r51 then some (decide (s23.2.2.2.1 ≤ (↑s23.2.2.2.2.2.2.2.1.length : Int)))
 else some false).bind
 fun r52 =>
 (bif r52 then (law24_exampleHolds_M []).bind fun r53 => (Ab.asBool r53).bind fun b54 => some b54
 else some false).bind
 fun r55 => some (PV.bool r55)
def law24_LintSound (L : Lps) (p0 : PV) : Option PV :=
 (Ab.asAgg 13 p0).bind fun x0 =>
 (asSl 4 (cell p0 0)).bind fun es1 =>
 (asSl 3 (cell p0 1)).bind fun es2 =>
 (asSl 10 (cell p0 2)).bind fun es3 =>
 (asSl 3 (cell p0 3)).bind fun es4 =>
 (asSl 5 (cell p0 4)).bind fun es5 =>
 (asSl 4 (cell p0 5)).bind fun es6 =>
 (asSl 2 (cell p0 6)).bind fun es7 =>
 (asSl 3 (cell p0 7)).bind fun es8 =>
 (asSl 4 (cell p0 8)).bind fun es9 =>
 (asSl 6 (cell p0 9)).bind fun es10 =>
 (Ab.asInt .i64 (cell p0 10)).bind fun n11 =>
 (Ab.asInt .i64 (cell p0 11)).bind fun n12 =>
 (Ab.asInt .i64 (cell p0 12)).bind fun n13 =>
 (ref24_Large_M
 [PV.agg
 [PV.rs 4 es1, PV.rs 3 es2, PV.rs 10 es3, PV.rs 3 es4, PV.rs 5 es5, PV.rs 4 es6,
 PV.rs 2 es7, PV.rs 3 es8, PV.rs 4 es9, PV.rs 6 es10, PV.int .i64 n11,
 PV.int .i64 n12, PV.int .i64 n13]]).bind
 fun r14 =>
 (Ab.asBool r14).bind fun b15 =>
 (bif b15 then some true
 else
 (ref24_Valid_M
 [PV.agg
 [PV.rs 4 es1, PV.rs 3 es2, PV.rs 10 es3, PV.rs 3 es4, PV.rs 5 es5,
 PV.rs 4 es6, PV.rs 2 es7, PV.rs 3 es8, PV.rs 4 es9, PV.rs 6 es10,
 PV.int .i64 n11, PV.int .i64 n12,
 PV.int .i64 n13]]).bind
 fun r16 => (Ab.asBool r16).bind fun b17 => some !b17).bind
 fun r18 =>
 if r18 = true then
 (law24_exampleHolds_M []).bind fun r19 =>
 (Ab.asBool r19).bind fun b20 => some (PV.bool b20)
 else
 (lint_Warnings_M
 [PV.agg
 [PV.rs 4 es1, PV.rs 3 es2, PV.rs 10 es3, PV.rs 3 es4, PV.rs 5 es5,
 PV.rs 4 es6, PV.rs 2 es7, PV.rs 3 es8, PV.rs 4 es9, PV.rs 6 es10,
 PV.int .i64 n11, PV.int .i64 n12,
 PV.int .i64 n13]]).bind
 fun r21 =>
 (asSl 3 r21).bind fun es22 =>
 L.run law24_LintSound_L1
 (es22, 0, 0, 0, 0, es1, es2, es3, es4, es5, es6, es7, es8, es9, es10, n11,
 n12, n13, ())
def law24_LintSound_M : List PV → Option PV
  | [p0] => law24_LintSound lpS p0
  | _ => none
def law24_has_L1 : (List PV × Int × Int × Int × Int × Unit) → (List PV × Int × Int × Int × Int × Unit → Option PV) → Option PV := fun s5 rec6 =>
 if decide (s5.2.1 < (↑s5.1.length : Int)) = true then
 (idxP s5.1 s5.2.1).bind fun p7 =>
 if
 chk (Kd.int IntKind.i64 :: [].append (Kd.int IntKind.i64 :: [].append (Kd.int IntKind.i64 :: [].append [])))
 [cell p7 0, cell p7 1, cell p7 2] =
 true ∧
 chk (Kd.int IntKind.i64 :: [].append (Kd.int IntKind.i64 :: [].append (Kd.int IntKind.i64 :: [].append [])))
 [PV.int .i64 s5.2.2.1, PV.int .i64 s5.2.2.2.1,
 PV.int .i64 s5.2.2.2.2.1] =
 true then
 if
 peqL [cell p7 0, cell p7 1, cell p7 2]
 [PV.int .i64 s5.2.2.1, PV.int .i64 s5.2.2.2.1,
 PV.int .i64 s5.2.2.2.2.1] =
 true then
 some (PV.bool true)
 else
 rec6 (s5.1, IntKind.i64.wrap (s5.2.1 + 1), s5.2.2.1, s5.2.2.2.1, s5.2.2.2.2.1, ())
 else none
else some (PV.bool false)
def law24_has (L : Lps) (p0 : PV) (p1 : PV) : Option PV :=
 (asSl 3 p0).bind fun es0 =>
 (Ab.asAgg 3 p1).bind fun x1 =>
 (Ab.asInt .i64 (cell p1 0)).bind fun n2 =>
 (Ab.asInt .i64 (cell p1 1)).bind fun n3 =>
 (Ab.asInt .i64 (cell p1 2)).bind fun n4 => L.run law24_has_L1 (es0, 0, n2, n3, n4, ())
def law24_has_M : List PV → Option PV
  | [p0, p1] => law24_has lpS p0 p1
  | _ => none
def law24_uses_L1 : (Int ×
 Int ×
 List PV ×
 List PV × List PV × List PV × List PV × List PV × List PV × List PV × List PV × List PV × Int × Int × Int × Unit) → (Int ×
 Int ×
 List PV ×
 List PV ×
 List PV × List PV × List PV × List PV × List PV × List PV × List PV × List PV × Int × Int × Int × Unit →
 Option PV) → Option PV := fun s24 rec25 =>
 if decide (s24.2.1 < (↑s24.2.2.2.2.2.2.2.2.2.1.length : Int)) = true then
 (idxP s24.2.2.2.2.2.2.2.2.2.1 s24.2.1).bind fun p26 =>
 (Ab.asInt .i64 (cell p26 0)).bind fun n27 =>
 (bif n27 == s24.1 then some true
 else
 (idxP s24.2.2.2.2.2.2.2.2.2.1 s24.2.1).bind fun p28 =>
 (Ab.asInt .i64 (cell p28 1)).bind fun n29 => some (n29 == s24.1)).bind
 fun r30 =>
 if r30 = true then some (PV.bool true)
 else
 rec25
 (s24.1, IntKind.i64.wrap (s24.2.1 + 1), s24.2.2.1, s24.2.2.2.1, s24.2.2.2.2.1,
 s24.2.2.2.2.2.1, s24.2.2.2.2.2.2.1, s24.2.2.2.2.2.2.2.1,
 s24.2.2.2.2.2.2.2.2.1, s24.2.2.2.2.2.2.2.2.2.1,
 s24.2.2.2.2.2.2.2.2.2.2.1, s24.2.2.2.2.2.2.2.2.2.2.2.1,
 s24.2.2.2.2.2.2.2.2.2.2.2.2.1,
 s24.2.2.2.2.2.2.2.2.2.2.2.2.2.1,
 s24.2.2.2.2.2.2.2.2.2.2.2.2.2.2.1, ())
else some (PV.bool false)
def law24_uses_L2 (L : Lps) : (Int ×
 Int ×
 List PV ×
 List PV × List PV × List PV × List PV × List PV × List PV × List PV × List PV × List PV × Int × Int × Int × Unit) → (Int ×
 Int ×
 List PV ×
 List PV ×
 List PV × List PV × List PV × List PV × List PV × List PV × List PV × List PV × Int × Int × Int × Unit →
 Option PV) → Option PV := fun s17 rec18 =>
 if decide (s17.2.1 < (↑s17.2.2.2.2.2.2.2.2.1.length : Int)) = true then
 (idxP s17.2.2.2.2.2.2.2.2.1 s17.2.1).bind fun p19 =>
 (Ab.asInt .i64 (cell p19 0)).bind fun n20 =>
 (bif n20 == s17.1 then some true
 else
 (idxP s17.2.2.2.2.2.2.2.2.1 s17.2.1).bind fun p21 =>
 (Ab.asInt .i64 (cell p21 1)).bind fun n22 => some (n22 == s17.1)).bind
 fun r23 =>
 if r23 = true then some (PV.bool true)
 else
 rec18
 (s17.1, IntKind.i64.wrap (s17.2.1 + 1), s17.2.2.1, s17.2.2.2.1, s17.2.2.2.2.1,
 s17.2.2.2.2.2.1, s17.2.2.2.2.2.2.1, s17.2.2.2.2.2.2.2.1,
 s17.2.2.2.2.2.2.2.2.1, s17.2.2.2.2.2.2.2.2.2.1,
 s17.2.2.2.2.2.2.2.2.2.2.1, s17.2.2.2.2.2.2.2.2.2.2.2.1,
 s17.2.2.2.2.2.2.2.2.2.2.2.2.1,
 s17.2.2.2.2.2.2.2.2.2.2.2.2.2.1,
 s17.2.2.2.2.2.2.2.2.2.2.2.2.2.2.1, ())
else
 L.run law24_uses_L1
 (s17.1, 0, s17.2.2.1, s17.2.2.2.1, s17.2.2.2.2.1, s17.2.2.2.2.2.1,
 s17.2.2.2.2.2.2.1, s17.2.2.2.2.2.2.2.1, s17.2.2.2.2.2.2.2.2.1,
 s17.2.2.2.2.2.2.2.2.2.1, s17.2.2.2.2.2.2.2.2.2.2.1,
 s17.2.2.2.2.2.2.2.2.2.2.2.1, s17.2.2.2.2.2.2.2.2.2.2.2.2.1,
 s17.2.2.2.2.2.2.2.2.2.2.2.2.2.1,
 s17.2.2.2.2.2.2.2.2.2.2.2.2.2.2.1, ())
def law24_uses (L : Lps) (p0 : PV) (p1 : PV) : Option PV :=
 (Ab.asAgg 13 p0).bind fun x0 =>
 (asSl 4 (cell p0 0)).bind fun es1 =>
 (asSl 3 (cell p0 1)).bind fun es2 =>
 (asSl 10 (cell p0 2)).bind fun es3 =>
 (asSl 3 (cell p0 3)).bind fun es4 =>
 (asSl 5 (cell p0 4)).bind fun es5 =>
 (asSl 4 (cell p0 5)).bind fun es6 =>
 (asSl 2 (cell p0 6)).bind fun es7 =>
 (asSl 3 (cell p0 7)).bind fun es8 =>
 (asSl 4 (cell p0 8)).bind fun es9 =>
 (asSl 6 (cell p0 9)).bind fun es10 =>
 (Ab.asInt .i64 (cell p0 10)).bind fun n11 =>
 (Ab.asInt .i64 (cell p0 11)).bind fun n12 =>
 (Ab.asInt .i64 (cell p0 12)).bind fun n13 =>
 (Ab.asInt .i64 p1).bind fun n14 =>
 (ref18_Repeated_M [PV.rs 4 es6, PV.int .i64 n14]).bind fun r15 =>
 (Ab.asBool r15).bind fun b16 =>
 if b16 = true then some (PV.bool true)
 else
 L.run (law24_uses_L2 L)
 (n14, 0, es1, es2, es3, es4, es5, es6, es7, es8, es9, es10, n11, n12, n13, ())
def law24_uses_M : List PV → Option PV
  | [p0, p1] => law24_uses lpS p0 p1
  | _ => none
def law24_LintFewer_L1 : (List PV × List PV × Int × Unit) → (List PV × List PV × Int × Unit → Option PV) → Option PV := fun s29 rec30 =>
 if decide (s29.2.2.1 < (↑s29.1.length : Int)) = true then
 (idxP s29.1 s29.2.2.1).bind fun p31 =>
 (Ab.asInt .i64 (cell p31 0)).bind fun n32 =>
 (bif decide (n32 ≤ 3) then some true else some (n32 == 6)).bind fun r33 =>
 (bif r33 then
 (idxP s29.1 s29.2.2.1).bind fun p34 =>
 (law24_has_M [PV.rs 3 s29.2.1, PV.agg [cell p34 0, cell p34 1, cell p34 2]]).bind fun r35 =>
 (Ab.asBool r35).bind fun b36 => some !b36
 else some false).bind
 fun r37 =>
 if r37 = true then some (PV.bool false)
 else rec30 (s29.1, s29.2.1, IntKind.i64.wrap (s29.2.2.1 + 1), ())
else (law24_exampleHolds_M []).bind fun r38 => (Ab.asBool r38).bind fun b39 => some (PV.bool b39)
def law24_LintFewer (L : Lps) (p0 : PV) : Option PV :=
 (Ab.asAgg 13 p0).bind fun x0 =>
 (asSl 4 (cell p0 0)).bind fun es1 =>
 (asSl 3 (cell p0 1)).bind fun es2 =>
 (asSl 10 (cell p0 2)).bind fun es3 =>
 (asSl 3 (cell p0 3)).bind fun es4 =>
 (asSl 5 (cell p0 4)).bind fun es5 =>
 (asSl 4 (cell p0 5)).bind fun es6 =>
 (asSl 2 (cell p0 6)).bind fun es7 =>
 (asSl 3 (cell p0 7)).bind fun es8 =>
 (asSl 4 (cell p0 8)).bind fun es9 =>
 (asSl 6 (cell p0 9)).bind fun es10 =>
 (Ab.asInt .i64 (cell p0 10)).bind fun n11 =>
 (Ab.asInt .i64 (cell p0 11)).bind fun n12 =>
 (Ab.asInt .i64 (cell p0 12)).bind fun n13 =>
 (ref24_Large_M
 [PV.agg
 [PV.rs 4 es1, PV.rs 3 es2, PV.rs 10 es3, PV.rs 3 es4, PV.rs 5 es5, PV.rs 4 es6,
 PV.rs 2 es7, PV.rs 3 es8, PV.rs 4 es9, PV.rs 6 es10, PV.int .i64 n11,
 PV.int .i64 n12, PV.int .i64 n13]]).bind
 fun r14 =>
 (Ab.asBool r14).bind fun b15 =>
 (bif b15 then some true
 else
 (ref24_Valid_M
 [PV.agg
 [PV.rs 4 es1, PV.rs 3 es2, PV.rs 10 es3, PV.rs 3 es4, PV.rs 5 es5,
 PV.rs 4 es6, PV.rs 2 es7, PV.rs 3 es8, PV.rs 4 es9, PV.rs 6 es10,
 PV.int .i64 n11, PV.int .i64 n12,
 PV.int .i64 n13]]).bind
 fun r16 => (Ab.asBool r16).bind fun b17 => some !b17).bind
 fun r18 =>
 (bif r18 then some true
 else some (decide (IntKind.i64.wrap ((↑es5.length : Int) - 1) < 0))).bind
 fun r19 =>
 (bif r19 then some true
 else
 (law24_uses_M
 [PV.agg
 [PV.rs 4 es1, PV.rs 3 es2, PV.rs 10 es3, PV.rs 3 es4, PV.rs 5 es5,
 PV.rs 4 es6, PV.rs 2 es7, PV.rs 3 es8, PV.rs 4 es9, PV.rs 6 es10,
 PV.int .i64 n11, PV.int .i64 n12,
 PV.int .i64 n13],
 PV.int .i64 (IntKind.i64.wrap ((↑es5.length : Int) - 1))]).bind
 fun r20 => (Ab.asBool r20).bind fun b21 => some b21).bind
 fun r22 =>
 if r22 = true then
 (law24_exampleHolds_M []).bind fun r23 =>
 (Ab.asBool r23).bind fun b24 => some (PV.bool b24)
 else
 (lint_Warnings_M
 [PV.agg
 [PV.rs 4 es1, PV.rs 3 es2, PV.rs 10 es3, PV.rs 3 es4, PV.rs 5 es5,
 PV.rs 4 es6, PV.rs 2 es7, PV.rs 3 es8, PV.rs 4 es9, PV.rs 6 es10,
 PV.int .i64 n11, PV.int .i64 n12,
 PV.int .i64 n13]]).bind
 fun r25 =>
 (asSl 3 r25).bind fun es26 =>
 if
 (0 : Int) ≤ 0 ∧
 0 ≤ IntKind.i64.wrap ((↑es5.length : Int) - 1) ∧
 IntKind.i64.wrap ((↑es5.length : Int) - 1) ≤ (↑es5.length : Int) ∧
 5 = 5 ∧ 5 ≠ 0 then
 (lint_Warnings_M
 [PV.agg
 [PV.rs 4 es1, PV.rs 3 es2, PV.rs 10 es3, PV.rs 3 es4,
 PV.rs 5
 (List.drop (Int.toNat 0)
 (List.take
 (IntKind.i64.wrap ((↑es5.length : Int) - 1)).toNat
 es5)),
 PV.rs 4 es6, PV.rs 2 es7, PV.rs 3 es8, PV.rs 4 es9,
 PV.rs 6 es10, PV.int .i64 n11, PV.int .i64 n12,
 PV.int .i64 n13]]).bind
 fun r27 =>
 (asSl 3 r27).bind fun es28 =>
 L.run law24_LintFewer_L1 (es26, es28, 0, ())
 else none
def law24_LintFewer_M : List PV → Option PV
  | [p0] => law24_LintFewer lpS p0
  | _ => none
def law24_LintOvertakes_L1 (rec24 : List PV ×
 Int ×
 List PV ×
 List PV ×
 List PV × List PV × List PV × List PV × List PV × List PV × List PV × List PV × Int × Int × Int × Unit →
 Option PV) : (List PV ×
 Int ×
 List PV ×
 List PV ×
 Bool ×
 Bool ×
 Int ×
 List PV ×
 List PV ×
 List PV ×
 List PV × List PV × List PV × List PV × List PV × List PV × List PV × Int × Int × Int × Unit) → (List PV ×
 Int ×
 List PV ×
 List PV ×
 Bool ×
 Bool ×
 Int ×
 List PV ×
 List PV ×
 List PV ×
 List PV × List PV × List PV × List PV × List PV × List PV × List PV × Int × Int × Int × Unit →
 Option PV) → Option PV := fun s43 rec44 =>
 if decide (s43.2.2.2.2.2.2.1 < (↑s43.2.2.1.length : Int)) = true then
 (bif s43.2.2.2.2.1 then some true
 else
 (idxP s43.2.2.1 s43.2.2.2.2.2.2.1).bind fun p45 =>
 (Ab.asInt .i64 (cell p45 1)).bind fun n46 =>
 (idxP s43.2.2.2.1 s43.2.2.2.2.2.2.1).bind fun p47 =>
 (Ab.asInt .i64 (cell p47 1)).bind fun n48 => some (decide (n46 < n48))).bind
 fun r49 =>
 (bif r49 then some true
 else
 (idxP s43.2.2.1 s43.2.2.2.2.2.2.1).bind fun p50 =>
 (Ab.asInt .i64 (cell p50 2)).bind fun n51 =>
 (idxP s43.2.2.2.1 s43.2.2.2.2.2.2.1).bind fun p52 =>
 (Ab.asInt .i64 (cell p52 2)).bind fun n53 => some (decide (n51 < n53))).bind
 fun r54 =>
 (bif s43.2.2.2.2.2.1 then some true
 else
 (idxP s43.2.2.1 s43.2.2.2.2.2.2.1).bind fun p55 =>
 (Ab.asInt .i64 (cell p55 1)).bind fun n56 =>
 (idxP s43.2.2.2.1 s43.2.2.2.2.2.2.1).bind fun p57 =>
 (Ab.asInt .i64 (cell p57 1)).bind fun n58 => some (decide (n56 > n58))).bind
 fun r59 =>
 (bif r59 then some true
 else
 (idxP s43.2.2.1 s43.2.2.2.2.2.2.1).bind fun p60 =>
 (Ab.asInt .i64 (cell p60 2)).bind fun n61 =>
 (idxP s43.2.2.2.1 s43.2.2.2.2.2.2.1).bind fun p62 =>
 (Ab.asInt .i64 (cell p62 2)).bind fun n63 => some (decide (n61 > n63))).bind
 fun r64 =>
 rec44
 (s43.1, s43.2.1, s43.2.2.1, s43.2.2.2.1, r54, r64,
 IntKind.i64.wrap (s43.2.2.2.2.2.2.1 + 1), s43.2.2.2.2.2.2.2.1,
 s43.2.2.2.2.2.2.2.2.1, s43.2.2.2.2.2.2.2.2.2.1,
 s43.2.2.2.2.2.2.2.2.2.2.1, s43.2.2.2.2.2.2.2.2.2.2.2.1,
 s43.2.2.2.2.2.2.2.2.2.2.2.2.1,
 s43.2.2.2.2.2.2.2.2.2.2.2.2.2.1,
 s43.2.2.2.2.2.2.2.2.2.2.2.2.2.2.1,
 s43.2.2.2.2.2.2.2.2.2.2.2.2.2.2.2.1,
 s43.2.2.2.2.2.2.2.2.2.2.2.2.2.2.2.2.1,
 s43.2.2.2.2.2.2.2.2.2.2.2.2.2.2.2.2.2.1,
 s43.2.2.2.2.2.2.2.2.2.2.2.2.2.2.2.2.2.2.1,
 s43.2.2.2.2.2.2.2.2.2.2.2.2.2.2.2.2.2.2.2.1, ())
else
 (bif !s43.2.2.2.2.1 then some true else some !s43.2.2.2.2.2.1).bind fun r65 =>
 if r65 = true then some (PV.bool false)
 else
 rec24
 (s43.1, IntKind.i64.wrap (s43.2.1 + 1), s43.2.2.2.2.2.2.2.1,
 s43.2.2.2.2.2.2.2.2.1, s43.2.2.2.2.2.2.2.2.2.1,
 s43.2.2.2.2.2.2.2.2.2.2.1, s43.2.2.2.2.2.2.2.2.2.2.2.1,
 s43.2.2.2.2.2.2.2.2.2.2.2.2.1,
 s43.2.2.2.2.2.2.2.2.2.2.2.2.2.1,
 s43.2.2.2.2.2.2.2.2.2.2.2.2.2.2.1,
 s43.2.2.2.2.2.2.2.2.2.2.2.2.2.2.2.1,
 s43.2.2.2.2.2.2.2.2.2.2.2.2.2.2.2.2.1,
 s43.2.2.2.2.2.2.2.2.2.2.2.2.2.2.2.2.2.1,
 s43.2.2.2.2.2.2.2.2.2.2.2.2.2.2.2.2.2.2.1,
 s43.2.2.2.2.2.2.2.2.2.2.2.2.2.2.2.2.2.2.2.1, ())
def law24_LintOvertakes_L2 (L : Lps) : (List PV ×
 Int ×
 List PV ×
 List PV × List PV × List PV × List PV × List PV × List PV × List PV × List PV × List PV × Int × Int × Int × Unit) → (List PV ×
 Int ×
 List PV ×
 List PV ×
 List PV × List PV × List PV × List PV × List PV × List PV × List PV × List PV × Int × Int × Int × Unit →
 Option PV) → Option PV := fun s23 rec24 =>
 if decide (s23.2.1 < (↑s23.1.length : Int)) = true then
 (idxP s23.1 s23.2.1).bind fun p25 =>
 (Ab.asInt .i64 (cell p25 0)).bind fun n26 =>
 if (n26 != 5) = true then
 rec24
 (s23.1, IntKind.i64.wrap (s23.2.1 + 1), s23.2.2.1, s23.2.2.2.1, s23.2.2.2.2.1,
 s23.2.2.2.2.2.1, s23.2.2.2.2.2.2.1, s23.2.2.2.2.2.2.2.1,
 s23.2.2.2.2.2.2.2.2.1, s23.2.2.2.2.2.2.2.2.2.1,
 s23.2.2.2.2.2.2.2.2.2.2.1, s23.2.2.2.2.2.2.2.2.2.2.2.1,
 s23.2.2.2.2.2.2.2.2.2.2.2.2.1,
 s23.2.2.2.2.2.2.2.2.2.2.2.2.2.1,
 s23.2.2.2.2.2.2.2.2.2.2.2.2.2.2.1, ())
 else
 (Ab.asInt .i64 (cell p25 1)).bind fun n27 =>
 (bif decide (n27 < 0) then some true
 else
 (Ab.asInt .i64 (cell p25 1)).bind fun n28 =>
 some (decide (n28 ≥ (↑s23.2.2.2.2.2.2.1.length : Int)))).bind
 fun r29 =>
 (bif r29 then some true
 else (Ab.asInt .i64 (cell p25 2)).bind fun n30 => some (decide (n30 < 0))).bind
 fun r31 =>
 (bif r31 then some true
 else
 (Ab.asInt .i64 (cell p25 2)).bind fun n32 =>
 some (decide (n32 ≥ (↑s23.2.2.2.2.2.2.1.length : Int)))).bind
 fun r33 =>
 (bif r33 then some true
 else
 (Ab.asInt .i64 (cell p25 1)).bind fun n34 =>
 (Ab.asInt .i64 (cell p25 2)).bind fun n35 => some (n34 == n35)).bind
 fun r36 =>
 if r36 = true then some (PV.bool false)
 else
 (Ab.asInt .i64 (cell p25 1)).bind fun n37 =>
 (idxP s23.2.2.2.2.2.2.1 n37).bind fun p38 =>
 (asSl 5 (cell p38 4)).bind fun es39 =>
 (Ab.asInt .i64 (cell p25 2)).bind fun n40 =>
 (idxP s23.2.2.2.2.2.2.1 n40).bind fun p41 =>
 (asSl 5 (cell p41 4)).bind fun es42 =>
 if ((↑es39.length : Int) != (↑es42.length : Int)) = true then some (PV.bool false)
 else
 L.run (law24_LintOvertakes_L1 rec24)
 (s23.1, s23.2.1, es39, es42, false, false, 0, s23.2.2.1,
 s23.2.2.2.1, s23.2.2.2.2.1, s23.2.2.2.2.2.1,
 s23.2.2.2.2.2.2.1, s23.2.2.2.2.2.2.2.1,
 s23.2.2.2.2.2.2.2.2.1,
 s23.2.2.2.2.2.2.2.2.2.1,
 s23.2.2.2.2.2.2.2.2.2.2.1,
 s23.2.2.2.2.2.2.2.2.2.2.2.1,
 s23.2.2.2.2.2.2.2.2.2.2.2.2.1,
 s23.2.2.2.2.2.2.2.2.2.2.2.2.2.1,
 s23.2.2.2.2.2.2.2.2.2.2.2.2.2.2.1, ())
else (law24_exampleHolds_M []).bind fun r66 => (Ab.asBool r66).bind fun b67 => some (PV.bool b67)
def law24_LintOvertakes (L : Lps) (p0 : PV) : Option PV :=
 (Ab.asAgg 13 p0).bind fun x0 =>
 (asSl 4 (cell p0 0)).bind fun es1 =>
 (asSl 3 (cell p0 1)).bind fun es2 =>
 (asSl 10 (cell p0 2)).bind fun es3 =>
 (asSl 3 (cell p0 3)).bind fun es4 =>
 (asSl 5 (cell p0 4)).bind fun es5 =>
 (asSl 4 (cell p0 5)).bind fun es6 =>
 (asSl 2 (cell p0 6)).bind fun es7 =>
 (asSl 3 (cell p0 7)).bind fun es8 =>
 (asSl 4 (cell p0 8)).bind fun es9 =>
 (asSl 6 (cell p0 9)).bind fun es10 =>
 (Ab.asInt .i64 (cell p0 10)).bind fun n11 =>
 (Ab.asInt .i64 (cell p0 11)).bind fun n12 =>
 (Ab.asInt .i64 (cell p0 12)).bind fun n13 =>
 (ref24_Large_M
 [PV.agg
 [PV.rs 4 es1, PV.rs 3 es2, PV.rs 10 es3, PV.rs 3 es4, PV.rs 5 es5, PV.rs 4 es6,
 PV.rs 2 es7, PV.rs 3 es8, PV.rs 4 es9, PV.rs 6 es10, PV.int .i64 n11,
 PV.int .i64 n12, PV.int .i64 n13]]).bind
 fun r14 =>
 (Ab.asBool r14).bind fun b15 =>
 (bif b15 then some true
 else
 (ref24_Valid_M
 [PV.agg
 [PV.rs 4 es1, PV.rs 3 es2, PV.rs 10 es3, PV.rs 3 es4, PV.rs 5 es5,
 PV.rs 4 es6, PV.rs 2 es7, PV.rs 3 es8, PV.rs 4 es9, PV.rs 6 es10,
 PV.int .i64 n11, PV.int .i64 n12,
 PV.int .i64 n13]]).bind
 fun r16 => (Ab.asBool r16).bind fun b17 => some !b17).bind
 fun r18 =>
 if r18 = true then
 (law24_exampleHolds_M []).bind fun r19 =>
 (Ab.asBool r19).bind fun b20 => some (PV.bool b20)
 else
 (lint_Warnings_M
 [PV.agg
 [PV.rs 4 es1, PV.rs 3 es2, PV.rs 10 es3, PV.rs 3 es4, PV.rs 5 es5,
 PV.rs 4 es6, PV.rs 2 es7, PV.rs 3 es8, PV.rs 4 es9, PV.rs 6 es10,
 PV.int .i64 n11, PV.int .i64 n12,
 PV.int .i64 n13]]).bind
 fun r21 =>
 (asSl 3 r21).bind fun es22 =>
 L.run (law24_LintOvertakes_L2 L)
 (es22, 0, es1, es2, es3, es4, es5, es6, es7, es8, es9, es10, n11, n12, n13,
 ())
def law24_LintOvertakes_M : List PV → Option PV
  | [p0] => law24_LintOvertakes lpS p0
  | _ => none
end Go.Ab
