/- Functions of the program as plain Lean functions, printed by a program of the author. -/
import Derived.Test.YtnbhhepiekhbjaaAbSeat
set_option linter.unusedVariables false
namespace Go.Ab
def law24_example (L : Lps) : Option PV :=
 some
 (PV.agg
 [PV.rs 4
 [PV.agg [PV.str [97], PV.int .i64 0, PV.bool false, PV.int .i64 0],
 PV.agg [PV.str [98], PV.int .i64 0, PV.bool false, PV.int .i64 0],
 PV.agg [PV.str [99], PV.int .i64 0, PV.bool false, PV.int .i64 0]],
 PV.rs 3 [PV.agg [PV.str [114], PV.int .i64 0, PV.bool false]],
 PV.rs 10
 [PV.agg
 [PV.str [100, 97, 105, 108, 121], PV.bool true, PV.bool true, PV.bool true, PV.bool true, PV.bool true,
 PV.bool true, PV.bool true, PV.int .i64 0, PV.int .i64 100]],
 PV.rs 0 [],
 PV.rs 5
 [PV.agg
 [PV.str [120], PV.int .i64 0, PV.int .i64 0, PV.bool false,
 PV.rs 5
 [PV.agg
 [PV.int .i64 0, PV.int .i64 100, PV.int .i64 100, PV.bool true, PV.bool false],
 PV.agg
 [PV.int .i64 1, PV.int .i64 200, PV.int .i64 200, PV.bool false,
 PV.bool true]]]],
 PV.rs 0 [], PV.rs 0 [], PV.rs 0 [], PV.rs 0 [],
 PV.rs 6
 [PV.agg
 [PV.str [116, 114, 97, 109], PV.int .i64 0, PV.int .i64 1, PV.int .i64 1,
 PV.int .i64 0, PV.int .i64 2]],
 PV.int .i64 0, PV.int .i64 0, PV.int .i64 0])
def law24_example_M : List PV → Option PV
  | [] => law24_example lpS 
  | _ => none
def law24_to_L1 (L : Lps) : (List PV × Int × List PV × Unit) → (List PV × Int × List PV × Unit → Option PV) → Option PV := fun s1 rec2 =>
 if decide (s1.2.1 < (↑s1.1.length : Int)) = true then
 (idxP s1.1 s1.2.1).bind fun p3 =>
 (Ab.asInt .i64 (cell p3 0)).bind fun n4 =>
 (idxP s1.1 s1.2.1).bind fun p5 =>
 (Ab.asInt .i64 (cell p5 1)).bind fun n6 =>
 (idxP s1.1 s1.2.1).bind fun p7 =>
 (Ab.asInt .i64 (cell p7 2)).bind fun n8 =>
 if
 (s1.2.2.1 ++
 [PV.agg [PV.int .i64 n4, PV.int .i64 n6, PV.int .i64 n8]]).length *
 24 ≤
 roomBound ∧
 0 < 24 then
 rec2
 (s1.1, IntKind.i64.wrap (s1.2.1 + 1),
 s1.2.2.1 ++ [PV.agg [PV.int .i64 n4, PV.int .i64 n6, PV.int .i64 n8]],
 ())
 else none
else some (PV.rs 3 s1.2.2.1)
def law24_to (L : Lps) (p0 : PV) : Option PV :=
 (asSl 3 p0).bind fun es0 => L.run (law24_to_L1 L) (es0, 0, [], ())
def law24_to_M : List PV → Option PV
  | [p0] => law24_to lpS p0
  | _ => none
def lint_Text_1 (L : Lps) (p0 : PV) (p1 : PV) : Option PV :=
 (Ab.asInt .i64 p0).bind fun n0 =>
 (Ab.asInt .i64 p1).bind fun n1 =>
 (bif decide (n0 ≥ 0) then some (decide (n0 < n1)) else some false).bind fun r2 => some (PV.bool r2)
def lint_Text_1_M : List PV → Option PV
  | [p0, p1] => lint_Text_1 lpS p0 p1
  | _ => none
def lint_Text (L : Lps) (p0 : PV) (p1 : PV) : Option PV :=
 (Ab.asAgg 13 p0).bind fun x0 =>
 (asSl 4 (cell p0 0)).bind fun es1 =>
 (asSl 3 (cell p0 1)).bind fun es2 =>
 (asSl 10 (cell p0 2)).bind fun es3 =>
 (asSl 3 (cell p0 3)).bind fun es4 =>
 (asSl 5 (cell p0 4)).bind fun es5 =>
 (asSl 4 (cell p0 5)).bind fun es6 =>
 (asSl 2 (cell p0 6)).bind fun es7 =>
 (asSl 3 (cell p0 7)).bind fun es8 =>
 (asSl 4 (cell p0 8)).bind fun es9 =>
 (asSl 6 (cell p0 9)).bind fun es10 =>
 (Ab.asInt .i64 (cell p0 10)).bind fun n11 =>
 (Ab.asInt .i64 (cell p0 11)).bind fun n12 =>
 (Ab.asInt .i64 (cell p0 12)).bind fun n13 =>
 (Ab.asAgg 3 p1).bind fun x14 =>
 (Ab.asInt .i64 (cell p1 0)).bind fun n15 =>
 (Ab.asInt .i64 (cell p1 1)).bind fun n16 =>
 (Ab.asInt .i64 (cell p1 2)).bind fun n17 =>
 if (n15 == 5) = true then
 (lint_Text_1_M
 [PV.int .i64 n16, PV.int .i64 (↑es5.length : Int)]).bind
 fun r18 =>
 (Ab.asBool r18).bind fun b19 =>
 (bif !b19 then some true
 else
 (lint_Text_1_M
 [PV.int .i64 n17,
 PV.int .i64 (↑es5.length : Int)]).bind
 fun r20 => (Ab.asBool r20).bind fun b21 => some !b21).bind
 fun r22 =>
 if r22 = true then some (PV.str [])
 else
 (idxP es5 n16).bind fun p23 =>
 (asStr (cell p23 0)).bind fun s24 =>
 if L.room (5 + List.length s24) = true then
 if
 L.room (List.length ([116, 114, 105, 112, 32] ++ s24) + 16) =
 true then
 (idxP es5 n17).bind fun p25 =>
 (asStr (cell p25 0)).bind fun s26 =>
 if
 L.room
 (List.length
 ([116, 114, 105, 112, 32] ++ s24 ++
 [32, 111, 118, 101, 114, 116, 97, 107, 101, 115,
 32, 116, 114, 105, 112, 32]) +
 List.length s26) =
 true then
 some
 (PV.str
 ([116, 114, 105, 112, 32] ++ s24 ++
 [32, 111, 118, 101, 114, 116, 97, 107, 101, 115, 32,
 116, 114, 105, 112, 32] ++
 s26))
 else none
 else none
 else none
 else
 if (n17 != 0) = true then some (PV.str [])
 else
 if (n15 == 1) = true then
 (lint_Text_1_M
 [PV.int .i64 n16, PV.int .i64 (↑es1.length : Int)]).bind
 fun r27 =>
 (Ab.asBool r27).bind fun b28 =>
 if (!b28) = true then some (PV.str [])
 else
 if (n15 == 6) = true then
 (idxP es1 n16).bind fun p29 =>
 (asStr (cell p29 0)).bind fun s30 =>
 if L.room (5 + List.length s30) = true then
 if
 L.room
 (List.length ([115, 116, 111, 112, 32] ++ s30) + 18) =
 true then
 some
 (PV.str
 ([115, 116, 111, 112, 32] ++ s30 ++
 [32, 99, 97, 110, 110, 111, 116, 32, 98, 101, 32, 114,
 101, 97, 99, 104, 101, 100]))
 else none
 else none
 else
 (idxP es1 n16).bind fun p31 =>
 (asStr (cell p31 0)).bind fun s32 =>
 if L.room (5 + List.length s32) = true then
 if
 L.room
 (List.length ([115, 116, 111, 112, 32] ++ s32) + 12) =
 true then
 some
 (PV.str
 ([115, 116, 111, 112, 32] ++ s32 ++
 [32, 105, 115, 32, 110, 111, 116, 32, 117, 115, 101,
 100]))
 else none
 else none
 else
 if (n15 == 6) = true then
 (lint_Text_1_M
 [PV.int .i64 n16, PV.int .i64 (↑es1.length : Int)]).bind
 fun r33 =>
 (Ab.asBool r33).bind fun b34 =>
 if (!b34) = true then some (PV.str [])
 else
 if (n15 == 6) = true then
 (idxP es1 n16).bind fun p35 =>
 (asStr (cell p35 0)).bind fun s36 =>
 if L.room (5 + List.length s36) = true then
 if
 L.room
 (List.length ([115, 116, 111, 112, 32] ++ s36) + 18) =
 true then
 some
 (PV.str
 ([115, 116, 111, 112, 32] ++ s36 ++
 [32, 99, 97, 110, 110, 111, 116, 32, 98, 101, 32, 114,
 101, 97, 99, 104, 101, 100]))
 else none
 else none
 else
 (idxP es1 n16).bind fun p37 =>
 (asStr (cell p37 0)).bind fun s38 =>
 if L.room (5 + List.length s38) = true then
 if
 L.room
 (List.length ([115, 116, 111, 112, 32] ++ s38) + 12) =
 true then
 some
 (PV.str
 ([115, 116, 111, 112, 32] ++ s38 ++
 [32, 105, 115, 32, 110, 111, 116, 32, 117, 115, 101,
 100]))
 else none
 else none
 else
 if (n15 == 2) = true then
 (lint_Text_1_M
 [PV.int .i64 n16,
 PV.int .i64 (↑es2.length : Int)]).bind
 fun r39 =>
 (Ab.asBool r39).bind fun b40 =>
 if (!b40) = true then some (PV.str [])
 else
 if (n15 == 7) = true then
 (idxP es2 n16).bind fun p41 =>
 (asStr (cell p41 0)).bind fun s42 =>
 if L.room (6 + List.length s42) = true then
 if
 L.room
 (List.length
 ([114, 111, 117, 116, 101, 32] ++ s42) +
 15) =
 true then
 some
 (PV.str
 ([114, 111, 117, 116, 101, 32] ++ s42 ++
 [32, 104, 97, 115, 32, 110, 111, 32, 112, 114, 111,
 100, 117, 99, 116]))
 else none
 else none
 else
 (idxP es2 n16).bind fun p43 =>
 (asStr (cell p43 0)).bind fun s44 =>
 if L.room (6 + List.length s44) = true then
 if
 L.room
 (List.length
 ([114, 111, 117, 116, 101, 32] ++ s44) +
 12) =
 true then
 some
 (PV.str
 ([114, 111, 117, 116, 101, 32] ++ s44 ++
 [32, 105, 115, 32, 110, 111, 116, 32, 117, 115, 101,
 100]))
 else none
 else none
 else
 if (n15 == 7) = true then
 (lint_Text_1_M
 [PV.int .i64 n16,
 PV.int .i64 (↑es2.length : Int)]).bind
 fun r45 =>
 (Ab.asBool r45).bind fun b46 =>
 if (!b46) = true then some (PV.str [])
 else
 if (n15 == 7) = true then
 (idxP es2 n16).bind fun p47 =>
 (asStr (cell p47 0)).bind fun s48 =>
 if L.room (6 + List.length s48) = true then
 if
 L.room
 (List.length
 ([114, 111, 117, 116, 101, 32] ++ s48) +
 15) =
 true then
 some
 (PV.str
 ([114, 111, 117, 116, 101, 32] ++ s48 ++
 [32, 104, 97, 115, 32, 110, 111, 32, 112, 114,
 111, 100, 117, 99, 116]))
 else none
 else none
 else
 (idxP es2 n16).bind fun p49 =>
 (asStr (cell p49 0)).bind fun s50 =>
 if L.room (6 + List.length s50) = true then
 if
 L.room
 (List.length
 ([114, 111, 117, 116, 101, 32] ++ s50) +
 12) =
 true then
 some
 (PV.str
 ([114, 111, 117, 116, 101, 32] ++ s50 ++
 [32, 105, 115, 32, 110, 111, 116, 32, 117, 115,
 101, 100]))
 else none
 else none
 else
 if (n15 == 3) = true then
 (lint_Text_1_M
 [PV.int .i64 n16,
 PV.int .i64 (↑es3.length : Int)]).bind
 fun r51 =>
 (Ab.asBool r51).bind fun b52 =>
 if b52 = true then
 (idxP es3 n16).bind fun p53 =>
 (asStr (cell p53 0)).bind fun s54 =>
 if L.room (9 + List.length s54) = true then
 if
 L.room
 (List.length
 ([99, 97, 108, 101, 110, 100, 97, 114, 32] ++
 s54) +
 12) =
 true then
 some
 (PV.str
 ([99, 97, 108, 101, 110, 100, 97, 114, 32] ++ s54 ++
 [32, 105, 115, 32, 110, 111, 116, 32, 117, 115,
 101, 100]))
 else none
 else none
 else some (PV.str [])
 else
 if (n15 == 4) = true then
 (lint_Text_1_M
 [PV.int .i64 n16,
 PV.int .i64 (↑es5.length : Int)]).bind
 fun r55 =>
 (Ab.asBool r55).bind fun b56 =>
 if b56 = true then
 (idxP es5 n16).bind fun p57 =>
 (asStr (cell p57 0)).bind fun s58 =>
 if L.room (5 + List.length s58) = true then
 if
 L.room
 (List.length ([116, 114, 105, 112, 32] ++ s58) +
 11) =
 true then
 some
 (PV.str
 ([116, 114, 105, 112, 32] ++ s58 ++
 [32, 110, 101, 118, 101, 114, 32, 114, 117, 110,
 115]))
 else none
 else none
 else some (PV.str [])
 else some (PV.str [])
def lint_Text_M : List PV → Option PV
  | [p0, p1] => lint_Text lpS p0 p1
  | _ => none
def lint_calendars_L1 : (List PV ×
 Int ×
 Int ×
 List PV ×
 List PV ×
 List PV ×
 List PV ×
 List PV × List PV × List PV × List PV × List PV × List PV × Int × Int × Int × List (PV × PV) × Unit) → (List PV ×
 Int ×
 Int ×
 List PV ×
 List PV ×
 List PV ×
 List PV ×
 List PV × List PV × List PV × List PV × List PV × List PV × Int × Int × Int × List (PV × PV) × Unit →
 Option PV) → Option PV := fun s14 rec15 =>
 if decide (s14.2.2.1 < s14.2.1) = true then
 (idxP s14.1 s14.2.2.1).bind fun p16 =>
 (Ab.asInt .i64 (cell p16 2)).bind fun n17 =>
 rec15
 (s14.1, s14.2.1, IntKind.i64.wrap (s14.2.2.1 + 1), s14.2.2.2.1, s14.2.2.2.2.1,
 s14.2.2.2.2.2.1, s14.2.2.2.2.2.2.1, s14.2.2.2.2.2.2.2.1,
 s14.2.2.2.2.2.2.2.2.1, s14.2.2.2.2.2.2.2.2.2.1,
 s14.2.2.2.2.2.2.2.2.2.2.1, s14.2.2.2.2.2.2.2.2.2.2.2.1,
 s14.2.2.2.2.2.2.2.2.2.2.2.2.1,
 s14.2.2.2.2.2.2.2.2.2.2.2.2.2.1,
 s14.2.2.2.2.2.2.2.2.2.2.2.2.2.2.1,
 s14.2.2.2.2.2.2.2.2.2.2.2.2.2.2.2.1,
 mput (PV.int .i64 n17) (PV.bool true)
 s14.2.2.2.2.2.2.2.2.2.2.2.2.2.2.2.2.1,
 ())
else
 some
 (PV.fn 63
 [PV.rp [PV.int .i64 (↑s14.2.2.2.2.2.1.length : Int)],
 PV.rp
 [PV.rm 3 (List.map (fun x => x.fst) s14.2.2.2.2.2.2.2.2.2.2.2.2.2.2.2.2.1)
 (List.map (fun x => x.snd) s14.2.2.2.2.2.2.2.2.2.2.2.2.2.2.2.2.1)],
 PV.rp [PV.int .i64 3]])
def lint_calendars (L : Lps) (p0 : PV) : Option PV :=
 (Ab.asAgg 13 p0).bind fun x0 =>
 (asSl 4 (cell p0 0)).bind fun es1 =>
 (asSl 3 (cell p0 1)).bind fun es2 =>
 (asSl 10 (cell p0 2)).bind fun es3 =>
 (asSl 3 (cell p0 3)).bind fun es4 =>
 (asSl 5 (cell p0 4)).bind fun es5 =>
 (asSl 4 (cell p0 5)).bind fun es6 =>
 (asSl 2 (cell p0 6)).bind fun es7 =>
 (asSl 3 (cell p0 7)).bind fun es8 =>
 (asSl 4 (cell p0 8)).bind fun es9 =>
 (asSl 6 (cell p0 9)).bind fun es10 =>
 (Ab.asInt .i64 (cell p0 10)).bind fun n11 =>
 (Ab.asInt .i64 (cell p0 11)).bind fun n12 =>
 (Ab.asInt .i64 (cell p0 12)).bind fun n13 =>
 L.run lint_calendars_L1
 (es5, (↑es5.length : Int), 0, es1, es2, es3, es4, es5, es6, es7, es8, es9, es10, n11, n12,
 n13, [], ())
def lint_calendars_M : List PV → Option PV
  | [p0] => lint_calendars lpS p0
  | _ => none
def date_Valid (L : Lps) (p0 : PV) : Option PV :=
 (Ab.asInt .i64 p0).bind fun n0 =>
 (bif decide (0 ≤ n0) then some (decide (n0 ≤ 36524)) else some false).bind fun r1 => some (PV.bool r1)
def date_Valid_M : List PV → Option PV
  | [p0] => date_Valid lpS p0
  | _ => none
def date_Weekday (L : Lps) (p0 : PV) : Option PV :=
 (Ab.asInt .i64 p0).bind fun n0 =>
 (date_Valid_M [PV.int .i64 n0]).bind fun r1 =>
 (Ab.asBool r1).bind fun b2 =>
 if (!b2) = true then some (PV.tup [PV.int .i64 0, PV.bool false])
 else some (PV.tup [PV.int .i64 ((IntKind.i64.wrap (n0 + 5)).tmod 7), PV.bool true])
def date_Weekday_M : List PV → Option PV
  | [p0] => date_Weekday lpS p0
  | _ => none
def calendar_Reason_L1 (L : Lps) : (Int × Int × Int × List PV × Int × Int × PV × PV × PV × PV × PV × PV × PV × PV × PV × PV × Unit) → (Int × Int × Int × List PV × Int × Int × PV × PV × PV × PV × PV × PV × PV × PV × PV × PV × Unit → Option PV) → Option PV := fun s9 rec10 =>
 if decide (s9.2.2.2.2.2.1 < s9.2.2.2.2.1) = true then
 (idxP s9.2.2.2.1 s9.2.2.2.2.2.1).bind fun p11 =>
 (Ab.asInt .i64 (cell p11 0)).bind fun n12 =>
 (bif n12 != s9.1 then some true
 else (Ab.asInt .i64 (cell p11 1)).bind fun n13 => some (n13 != s9.2.1)).bind
 fun r14 =>
 if r14 = true then
 rec10
 (s9.1, s9.2.1, s9.2.2.1, s9.2.2.2.1, s9.2.2.2.2.1,
 IntKind.i64.wrap (s9.2.2.2.2.2.1 + 1), s9.2.2.2.2.2.2.1,
 s9.2.2.2.2.2.2.2.1, s9.2.2.2.2.2.2.2.2.1,
 s9.2.2.2.2.2.2.2.2.2.1, s9.2.2.2.2.2.2.2.2.2.2.1,
 s9.2.2.2.2.2.2.2.2.2.2.2.1,
 s9.2.2.2.2.2.2.2.2.2.2.2.2.1,
 s9.2.2.2.2.2.2.2.2.2.2.2.2.2.1,
 s9.2.2.2.2.2.2.2.2.2.2.2.2.2.2.1,
 s9.2.2.2.2.2.2.2.2.2.2.2.2.2.2.2.1, ())
 else
 (Ab.asBool (cell p11 2)).bind fun b15 =>
 if b15 = true then some (PV.int .i64 2) else some (PV.int .i64 3)
else
 (bif s9.2.2.1 == 3 then some true
 else
 (Ab.asInt .i64 s9.2.2.2.2.2.2.2.2.2.2.2.2.2.2.1).bind fun n16 =>
 some (decide (s9.2.1 < n16))).bind
 fun r17 =>
 (bif r17 then some true
 else
 (Ab.asInt .i64 s9.2.2.2.2.2.2.2.2.2.2.2.2.2.2.2.1).bind fun n18 =>
 some (decide (s9.2.1 > n18))).bind
 fun r19 =>
 if r19 = true then some (PV.int .i64 s9.2.2.1)
 else
 (date_Weekday_M [PV.int .i64 s9.2.1]).bind fun r20 =>
 (asTup 2 r20).bind fun vs21 =>
 (Ab.asInt .i64 (vs21.getD 0 .bad)).bind fun n22 =>
 (Ab.asBool (vs21.getD 1 .bad)).bind fun b23 =>
 if inRange n22 7 ∧ 0 < 1 then
 [s9.2.2.2.2.2.2.1, s9.2.2.2.2.2.2.2.1,
 s9.2.2.2.2.2.2.2.2.1, s9.2.2.2.2.2.2.2.2.2.1,
 s9.2.2.2.2.2.2.2.2.2.2.1,
 s9.2.2.2.2.2.2.2.2.2.2.2.1,
 s9.2.2.2.2.2.2.2.2.2.2.2.2.1,
 s9.2.2.2.2.2.2.2.2.2.2.2.2.2.1,
 s9.2.2.2.2.2.2.2.2.2.2.2.2.2.2.1,
 s9.2.2.2.2.2.2.2.2.2.2.2.2.2.2.2.1][1 + n22.toNat * 1]?.bind
 fun p24 =>
 (Ab.asBool p24).bind fun b25 =>
 if b25 = true then some (PV.int .i64 1) else some (PV.int .i64 4)
 else none
def calendar_Reason (L : Lps) (p0 : PV) (p1 : PV) (p2 : PV) (p3 : PV) : Option PV :=
 (asSl 10 p0).bind fun es0 =>
 (asSl 3 p1).bind fun es1 =>
 (Ab.asInt .i64 p2).bind fun n2 =>
 (Ab.asInt .i64 p3).bind fun n3 =>
 (bif decide (n2 < 0) then some true else some (decide (n2 ≥ (↑es0.length : Int)))).bind fun r4 =>
 (bif r4 then some true
 else (date_Valid_M [PV.int .i64 n3]).bind fun r5 => (Ab.asBool r5).bind fun b6 => some !b6).bind
 fun r7 =>
 if r7 = true then some (PV.int .i64 0)
 else
 (idxP es0 n2).bind fun p8 =>
 L.run (calendar_Reason_L1 L)
 (n2, n3, 5, es1, (↑es1.length : Int), 0, cell p8 0, cell p8 1, cell p8 2, cell p8 3, cell p8 4,
 cell p8 5, cell p8 6, cell p8 7, cell p8 8, cell p8 9, ())
def calendar_Reason_M : List PV → Option PV
  | [p0, p1, p2, p3] => calendar_Reason lpS p0 p1 p2 p3
  | _ => none
def calendar_Active (L : Lps) (p0 : PV) (p1 : PV) (p2 : PV) (p3 : PV) : Option PV :=
 (asSl 10 p0).bind fun es0 =>
 (asSl 3 p1).bind fun es1 =>
 (Ab.asInt .i64 p2).bind fun n2 =>
 (Ab.asInt .i64 p3).bind fun n3 =>
 (calendar_Reason_M [PV.rs 10 es0, PV.rs 3 es1, PV.int .i64 n2, PV.int .i64 n3]).bind fun r4 =>
 (Ab.asInt .i64 r4).bind fun n5 =>
 (bif n5 == 1 then some true else some (n5 == 2)).bind fun r6 => some (PV.bool r6)
def calendar_Active_M : List PV → Option PV
  | [p0, p1, p2, p3] => calendar_Active lpS p0 p1 p2 p3
  | _ => none
def calendar_Next_L1 : (List PV × List PV × Int × Int × Unit) → (List PV × List PV × Int × Int × Unit → Option PV) → Option PV := fun s4 rec5 =>
 if decide (s4.2.2.2.1 ≤ 36524) = true then
 (calendar_Active_M
 [PV.rs 10 s4.1, PV.rs 3 s4.2.1, PV.int .i64 s4.2.2.1,
 PV.int .i64 s4.2.2.2.1]).bind
 fun r6 =>
 (Ab.asBool r6).bind fun b7 =>
 if b7 = true then some (PV.tup [PV.int .i64 s4.2.2.2.1, PV.bool true])
 else rec5 (s4.1, s4.2.1, s4.2.2.1, IntKind.i64.wrap (s4.2.2.2.1 + 1), ())
else some (PV.tup [PV.int .i64 0, PV.bool false])
def calendar_Next (L : Lps) (p0 : PV) (p1 : PV) (p2 : PV) (p3 : PV) : Option PV :=
 (asSl 10 p0).bind fun es0 =>
 (asSl 3 p1).bind fun es1 =>
 (Ab.asInt .i64 p2).bind fun n2 =>
 (Ab.asInt .i64 p3).bind fun n3 => L.run calendar_Next_L1 (es0, es1, n2, if 0 > n3 then 0 else n3, ())
def calendar_Next_M : List PV → Option PV
  | [p0, p1, p2, p3] => calendar_Next lpS p0 p1 p2 p3
  | _ => none
def lint_idle_L1 : (List PV ×
 Int ×
 Int ×
 List PV ×
 List PV ×
 List PV ×
 List PV ×
 List PV × List PV × List PV × List PV × List PV × List PV × Int × Int × Int × List (PV × PV) × Unit) → (List PV ×
 Int ×
 Int ×
 List PV ×
 List PV ×
 List PV ×
 List PV ×
 List PV × List PV × List PV × List PV × List PV × List PV × Int × Int × Int × List (PV × PV) × Unit →
 Option PV) → Option PV := fun s14 rec15 =>
 if decide (s14.2.2.1 < s14.2.1) = true then
 (idxP s14.1 s14.2.2.1).bind fun p16 =>
 (Ab.asInt .i64 (cell p16 2)).bind fun n17 =>
 (calendar_Next_M
 [PV.rs 10 s14.2.2.2.2.2.1, PV.rs 3 s14.2.2.2.2.2.2.1, PV.int .i64 n17,
 PV.int .i64 0]).bind
 fun r18 =>
 (asTup 2 r18).bind fun vs19 =>
 (Ab.asInt .i64 (vs19.getD 0 .bad)).bind fun n20 =>
 (Ab.asBool (vs19.getD 1 .bad)).bind fun b21 =>
 rec15
 (s14.1, s14.2.1, IntKind.i64.wrap (s14.2.2.1 + 1), s14.2.2.2.1,
 s14.2.2.2.2.1, s14.2.2.2.2.2.1, s14.2.2.2.2.2.2.1,
 s14.2.2.2.2.2.2.2.1, s14.2.2.2.2.2.2.2.2.1,
 s14.2.2.2.2.2.2.2.2.2.1, s14.2.2.2.2.2.2.2.2.2.2.1,
 s14.2.2.2.2.2.2.2.2.2.2.2.1,
 s14.2.2.2.2.2.2.2.2.2.2.2.2.1,
 s14.2.2.2.2.2.2.2.2.2.2.2.2.2.1,
 s14.2.2.2.2.2.2.2.2.2.2.2.2.2.2.1,
 s14.2.2.2.2.2.2.2.2.2.2.2.2.2.2.2.1,
 mput (PV.int .i64 s14.2.2.1) (PV.bool b21)
 s14.2.2.2.2.2.2.2.2.2.2.2.2.2.2.2.2.1,
 ())
else
 some
 (PV.fn 63
 [PV.rp [PV.int .i64 (↑s14.2.2.2.2.2.2.2.1.length : Int)],
 PV.rp
 [PV.rm 3 (List.map (fun x => x.fst) s14.2.2.2.2.2.2.2.2.2.2.2.2.2.2.2.2.1)
 (List.map (fun x => x.snd) s14.2.2.2.2.2.2.2.2.2.2.2.2.2.2.2.2.1)],
 PV.rp [PV.int .i64 4]])
def lint_idle (L : Lps) (p0 : PV) : Option PV :=
 (Ab.asAgg 13 p0).bind fun x0 =>
 (asSl 4 (cell p0 0)).bind fun es1 =>
 (asSl 3 (cell p0 1)).bind fun es2 =>
 (asSl 10 (cell p0 2)).bind fun es3 =>
 (asSl 3 (cell p0 3)).bind fun es4 =>
 (asSl 5 (cell p0 4)).bind fun es5 =>
 (asSl 4 (cell p0 5)).bind fun es6 =>
 (asSl 2 (cell p0 6)).bind fun es7 =>
 (asSl 3 (cell p0 7)).bind fun es8 =>
 (asSl 4 (cell p0 8)).bind fun es9 =>
 (asSl 6 (cell p0 9)).bind fun es10 =>
 (Ab.asInt .i64 (cell p0 10)).bind fun n11 =>
 (Ab.asInt .i64 (cell p0 11)).bind fun n12 =>
 (Ab.asInt .i64 (cell p0 12)).bind fun n13 =>
 L.run lint_idle_L1
 (es5, (↑es5.length : Int), 0, es1, es2, es3, es4, es5, es6, es7, es8, es9, es10, n11, n12,
 n13, [], ())
def lint_idle_M : List PV → Option PV
  | [p0] => lint_idle lpS p0
  | _ => none
def lint_overtaking_L1 : (List PV ×
 Int ×
 Int ×
 List PV ×
 List PV ×
 List PV ×
 List PV ×
 List PV × List PV × List PV × List PV × List PV × List PV × Int × Int × Int × List (PV × PV) × Unit) → (List PV ×
 Int ×
 Int ×
 List PV ×
 List PV ×
 List PV ×
 List PV ×
 List PV × List PV × List PV × List PV × List PV × List PV × Int × Int × Int × List (PV × PV) × Unit →
 Option PV) → Option PV := fun s14 rec15 =>
 if decide (s14.2.2.1 < s14.2.1) = true then
 (idxP s14.1 s14.2.2.1).bind fun p16 =>
 (Ab.asInt .i64 (cell p16 0)).bind fun n17 =>
 rec15
 (s14.1, s14.2.1, IntKind.i64.wrap (s14.2.2.1 + 1), s14.2.2.2.1, s14.2.2.2.2.1,
 s14.2.2.2.2.2.1, s14.2.2.2.2.2.2.1, s14.2.2.2.2.2.2.2.1,
 s14.2.2.2.2.2.2.2.2.1, s14.2.2.2.2.2.2.2.2.2.1,
 s14.2.2.2.2.2.2.2.2.2.2.1, s14.2.2.2.2.2.2.2.2.2.2.2.1,
 s14.2.2.2.2.2.2.2.2.2.2.2.2.1,
 s14.2.2.2.2.2.2.2.2.2.2.2.2.2.1,
 s14.2.2.2.2.2.2.2.2.2.2.2.2.2.2.1,
 s14.2.2.2.2.2.2.2.2.2.2.2.2.2.2.2.1,
 mput (PV.int .i64 n17) (PV.bool true)
 s14.2.2.2.2.2.2.2.2.2.2.2.2.2.2.2.2.1,
 ())
else
 some
 (PV.fn 48
 [PV.rp
 [PV.rs 4 s14.2.2.2.1, PV.rs 3 s14.2.2.2.2.1, PV.rs 10 s14.2.2.2.2.2.1,
 PV.rs 3 s14.2.2.2.2.2.2.1, PV.rs 5 s14.2.2.2.2.2.2.2.1,
 PV.rs 4 s14.2.2.2.2.2.2.2.2.1, PV.rs 2 s14.2.2.2.2.2.2.2.2.2.1,
 PV.rs 3 s14.2.2.2.2.2.2.2.2.2.2.1,
 PV.rs 4 s14.2.2.2.2.2.2.2.2.2.2.2.1,
 PV.rs 6 s14.2.2.2.2.2.2.2.2.2.2.2.2.1,
 PV.int .i64 s14.2.2.2.2.2.2.2.2.2.2.2.2.2.1,
 PV.int .i64 s14.2.2.2.2.2.2.2.2.2.2.2.2.2.2.1,
 PV.int .i64 s14.2.2.2.2.2.2.2.2.2.2.2.2.2.2.2.1],
 PV.rp
 [PV.fn 47
 [PV.rp
 [PV.rm 3
 (List.map (fun x => x.fst)
 s14.2.2.2.2.2.2.2.2.2.2.2.2.2.2.2.2.1)
 (List.map (fun x => x.snd)
 s14.2.2.2.2.2.2.2.2.2.2.2.2.2.2.2.2.1)]]]])
def lint_overtaking (L : Lps) (p0 : PV) : Option PV :=
 (Ab.asAgg 13 p0).bind fun x0 =>
 (asSl 4 (cell p0 0)).bind fun es1 =>
 (asSl 3 (cell p0 1)).bind fun es2 =>
 (asSl 10 (cell p0 2)).bind fun es3 =>
 (asSl 3 (cell p0 3)).bind fun es4 =>
 (asSl 5 (cell p0 4)).bind fun es5 =>
 (asSl 4 (cell p0 5)).bind fun es6 =>
 (asSl 2 (cell p0 6)).bind fun es7 =>
 (asSl 3 (cell p0 7)).bind fun es8 =>
 (asSl 4 (cell p0 8)).bind fun es9 =>
 (asSl 6 (cell p0 9)).bind fun es10 =>
 (Ab.asInt .i64 (cell p0 10)).bind fun n11 =>
 (Ab.asInt .i64 (cell p0 11)).bind fun n12 =>
 (Ab.asInt .i64 (cell p0 12)).bind fun n13 =>
 L.run lint_overtaking_L1
 (es6, (↑es6.length : Int), 0, es1, es2, es3, es4, es5, es6, es7, es8, es9, es10, n11, n12,
 n13, [], ())
def lint_overtaking_M : List PV → Option PV
  | [p0] => lint_overtaking lpS p0
  | _ => none
def lint_overtaking_1 (L : Lps) (p0 : PV) (c1 : PV) : Option PV :=
 (Ab.asInt .i64 p0).bind fun n0 =>
 mapCase 3 c1 (some (PV.bool !false)) fun ks1 vs2 =>
 (Ab.asBool (mlook (PV.int .i64 n0) (PV.bool false) (ks1.zip vs2))).bind fun b3 => some (PV.bool !b3)
def lint_overtaking_1_M : List PV → Option PV
  | [p0, PV.rp [c1]] => lint_overtaking_1 lpS p0 c1
  | _ => none
def lint_routes_L1 : (List PV ×
 Int ×
 Int ×
 List PV ×
 List PV ×
 List PV ×
 List PV ×
 List PV × List PV × List PV × List PV × List PV × List PV × Int × Int × Int × List (PV × PV) × Unit) → (List PV ×
 Int ×
 Int ×
 List PV ×
 List PV ×
 List PV ×
 List PV ×
 List PV × List PV × List PV × List PV × List PV × List PV × Int × Int × Int × List (PV × PV) × Unit →
 Option PV) → Option PV := fun s14 rec15 =>
 if decide (s14.2.2.1 < s14.2.1) = true then
 (idxP s14.1 s14.2.2.1).bind fun p16 =>
 (Ab.asInt .i64 (cell p16 1)).bind fun n17 =>
 rec15
 (s14.1, s14.2.1, IntKind.i64.wrap (s14.2.2.1 + 1), s14.2.2.2.1, s14.2.2.2.2.1,
 s14.2.2.2.2.2.1, s14.2.2.2.2.2.2.1, s14.2.2.2.2.2.2.2.1,
 s14.2.2.2.2.2.2.2.2.1, s14.2.2.2.2.2.2.2.2.2.1,
 s14.2.2.2.2.2.2.2.2.2.2.1, s14.2.2.2.2.2.2.2.2.2.2.2.1,
 s14.2.2.2.2.2.2.2.2.2.2.2.2.1,
 s14.2.2.2.2.2.2.2.2.2.2.2.2.2.1,
 s14.2.2.2.2.2.2.2.2.2.2.2.2.2.2.1,
 s14.2.2.2.2.2.2.2.2.2.2.2.2.2.2.2.1,
 mput (PV.int .i64 n17) (PV.bool true)
 s14.2.2.2.2.2.2.2.2.2.2.2.2.2.2.2.2.1,
 ())
else
 some
 (PV.fn 63
 [PV.rp [PV.int .i64 (↑s14.2.2.2.2.1.length : Int)],
 PV.rp
 [PV.rm 3 (List.map (fun x => x.fst) s14.2.2.2.2.2.2.2.2.2.2.2.2.2.2.2.2.1)
 (List.map (fun x => x.snd) s14.2.2.2.2.2.2.2.2.2.2.2.2.2.2.2.2.1)],
 PV.rp [PV.int .i64 2]])
def lint_routes (L : Lps) (p0 : PV) : Option PV :=
 (Ab.asAgg 13 p0).bind fun x0 =>
 (asSl 4 (cell p0 0)).bind fun es1 =>
 (asSl 3 (cell p0 1)).bind fun es2 =>
 (asSl 10 (cell p0 2)).bind fun es3 =>
 (asSl 3 (cell p0 3)).bind fun es4 =>
 (asSl 5 (cell p0 4)).bind fun es5 =>
 (asSl 4 (cell p0 5)).bind fun es6 =>
 (asSl 2 (cell p0 6)).bind fun es7 =>
 (asSl 3 (cell p0 7)).bind fun es8 =>
 (asSl 4 (cell p0 8)).bind fun es9 =>
 (asSl 6 (cell p0 9)).bind fun es10 =>
 (Ab.asInt .i64 (cell p0 10)).bind fun n11 =>
 (Ab.asInt .i64 (cell p0 11)).bind fun n12 =>
 (Ab.asInt .i64 (cell p0 12)).bind fun n13 =>
 L.run lint_routes_L1
 (es5, (↑es5.length : Int), 0, es1, es2, es3, es4, es5, es6, es7, es8, es9, es10, n11, n12,
 n13, [], ())
def lint_routes_M : List PV → Option PV
  | [p0] => lint_routes lpS p0
  | _ => none
def lint_stops_L1 (rec15 : List PV ×
 Int ×
 Int ×
 List PV ×
 List PV ×
 List PV ×
 List PV ×
 List PV × List PV × List PV × List PV × List PV × List PV × Int × Int × Int × List (PV × PV) × Unit →
 Option PV) : (List PV ×
 Int ×
 Int ×
 List PV ×
 Int ×
 Int ×
 List PV ×
 List PV ×
 List PV ×
 List PV ×
 List PV × List PV × List PV × List PV × List PV × List PV × Int × Int × Int × List (PV × PV) × Unit) → (List PV ×
 Int ×
 Int ×
 List PV ×
 Int ×
 Int ×
 List PV ×
 List PV ×
 List PV ×
 List PV ×
 List PV ×
 List PV × List PV × List PV × List PV × List PV × Int × Int × Int × List (PV × PV) × Unit →
 Option PV) → Option PV := fun s18 rec19 =>
 if decide (s18.2.2.2.2.2.1 < s18.2.2.2.2.1) = true then
 (idxP s18.2.2.2.1 s18.2.2.2.2.2.1).bind fun p20 =>
 (Ab.asInt .i64 (cell p20 0)).bind fun n21 =>
 rec19
 (s18.1, s18.2.1, s18.2.2.1, s18.2.2.2.1, s18.2.2.2.2.1,
 IntKind.i64.wrap (s18.2.2.2.2.2.1 + 1), s18.2.2.2.2.2.2.1,
 s18.2.2.2.2.2.2.2.1, s18.2.2.2.2.2.2.2.2.1,
 s18.2.2.2.2.2.2.2.2.2.1, s18.2.2.2.2.2.2.2.2.2.2.1,
 s18.2.2.2.2.2.2.2.2.2.2.2.1, s18.2.2.2.2.2.2.2.2.2.2.2.2.1,
 s18.2.2.2.2.2.2.2.2.2.2.2.2.2.1,
 s18.2.2.2.2.2.2.2.2.2.2.2.2.2.2.1,
 s18.2.2.2.2.2.2.2.2.2.2.2.2.2.2.2.1,
 s18.2.2.2.2.2.2.2.2.2.2.2.2.2.2.2.2.1,
 s18.2.2.2.2.2.2.2.2.2.2.2.2.2.2.2.2.2.1,
 s18.2.2.2.2.2.2.2.2.2.2.2.2.2.2.2.2.2.2.1,
 mput (PV.int .i64 n21) (PV.bool true)
 s18.2.2.2.2.2.2.2.2.2.2.2.2.2.2.2.2.2.2.2.1,
 ())
else
 rec15
 (s18.1, s18.2.1, IntKind.i64.wrap (s18.2.2.1 + 1), s18.2.2.2.2.2.2.1,
 s18.2.2.2.2.2.2.2.1, s18.2.2.2.2.2.2.2.2.1,
 s18.2.2.2.2.2.2.2.2.2.1, s18.2.2.2.2.2.2.2.2.2.2.1,
 s18.2.2.2.2.2.2.2.2.2.2.2.1, s18.2.2.2.2.2.2.2.2.2.2.2.2.1,
 s18.2.2.2.2.2.2.2.2.2.2.2.2.2.1,
 s18.2.2.2.2.2.2.2.2.2.2.2.2.2.2.1,
 s18.2.2.2.2.2.2.2.2.2.2.2.2.2.2.2.1,
 s18.2.2.2.2.2.2.2.2.2.2.2.2.2.2.2.2.1,
 s18.2.2.2.2.2.2.2.2.2.2.2.2.2.2.2.2.2.1,
 s18.2.2.2.2.2.2.2.2.2.2.2.2.2.2.2.2.2.2.1,
 s18.2.2.2.2.2.2.2.2.2.2.2.2.2.2.2.2.2.2.2.1, ())
def lint_stops_L2 : (List PV ×
 Int ×
 Int ×
 List PV ×
 List PV ×
 List PV ×
 List PV ×
 List PV × List PV × List PV × List PV × List PV × List PV × Int × Int × Int × List (PV × PV) × Unit) → (List PV ×
 Int ×
 Int ×
 List PV ×
 List PV ×
 List PV ×
 List PV ×
 List PV × List PV × List PV × List PV × List PV × List PV × Int × Int × Int × List (PV × PV) × Unit →
 Option PV) → Option PV := fun s22 rec23 =>
 if decide (s22.2.2.1 < s22.2.1) = true then
 (idxP s22.1 s22.2.2.1).bind fun p24 =>
 (Ab.asInt .i64 (cell p24 0)).bind fun n25 =>
 (Ab.asInt .i64 (cell p24 1)).bind fun n26 =>
 rec23
 (s22.1, s22.2.1, IntKind.i64.wrap (s22.2.2.1 + 1), s22.2.2.2.1, s22.2.2.2.2.1,
 s22.2.2.2.2.2.1, s22.2.2.2.2.2.2.1, s22.2.2.2.2.2.2.2.1,
 s22.2.2.2.2.2.2.2.2.1, s22.2.2.2.2.2.2.2.2.2.1,
 s22.2.2.2.2.2.2.2.2.2.2.1, s22.2.2.2.2.2.2.2.2.2.2.2.1,
 s22.2.2.2.2.2.2.2.2.2.2.2.2.1,
 s22.2.2.2.2.2.2.2.2.2.2.2.2.2.1,
 s22.2.2.2.2.2.2.2.2.2.2.2.2.2.2.1,
 s22.2.2.2.2.2.2.2.2.2.2.2.2.2.2.2.1,
 mput (PV.int .i64 n26) (PV.bool true)
 (mput (PV.int .i64 n25) (PV.bool true)
 s22.2.2.2.2.2.2.2.2.2.2.2.2.2.2.2.2.1),
 ())
else
 some
 (PV.fn 63
 [PV.rp [PV.int .i64 (↑s22.2.2.2.1.length : Int)],
 PV.rp
 [PV.rm 3 (List.map (fun x => x.fst) s22.2.2.2.2.2.2.2.2.2.2.2.2.2.2.2.2.1)
 (List.map (fun x => x.snd) s22.2.2.2.2.2.2.2.2.2.2.2.2.2.2.2.2.1)],
 PV.rp [PV.int .i64 1]])
def lint_stops_L3 (L : Lps) : (List PV ×
 Int ×
 Int ×
 List PV ×
 List PV ×
 List PV ×
 List PV ×
 List PV × List PV × List PV × List PV × List PV × List PV × Int × Int × Int × List (PV × PV) × Unit) → (List PV ×
 Int ×
 Int ×
 List PV ×
 List PV ×
 List PV ×
 List PV ×
 List PV × List PV × List PV × List PV × List PV × List PV × Int × Int × Int × List (PV × PV) × Unit →
 Option PV) → Option PV := fun s14 rec15 =>
 if decide (s14.2.2.1 < s14.2.1) = true then
 (idxP s14.1 s14.2.2.1).bind fun p16 =>
 (asSl 5 (cell p16 4)).bind fun es17 =>
 L.run (lint_stops_L1 rec15)
 (s14.1, s14.2.1, s14.2.2.1, es17, (↑es17.length : Int), 0, s14.2.2.2.1,
 s14.2.2.2.2.1, s14.2.2.2.2.2.1, s14.2.2.2.2.2.2.1,
 s14.2.2.2.2.2.2.2.1, s14.2.2.2.2.2.2.2.2.1,
 s14.2.2.2.2.2.2.2.2.2.1, s14.2.2.2.2.2.2.2.2.2.2.1,
 s14.2.2.2.2.2.2.2.2.2.2.2.1, s14.2.2.2.2.2.2.2.2.2.2.2.2.1,
 s14.2.2.2.2.2.2.2.2.2.2.2.2.2.1,
 s14.2.2.2.2.2.2.2.2.2.2.2.2.2.2.1,
 s14.2.2.2.2.2.2.2.2.2.2.2.2.2.2.2.1,
 s14.2.2.2.2.2.2.2.2.2.2.2.2.2.2.2.2.1, ())
else
 L.run lint_stops_L2
 (s14.2.2.2.2.2.2.2.2.2.2.2.1,
 (↑s14.2.2.2.2.2.2.2.2.2.2.2.1.length : Int), 0, s14.2.2.2.1,
 s14.2.2.2.2.1, s14.2.2.2.2.2.1, s14.2.2.2.2.2.2.1,
 s14.2.2.2.2.2.2.2.1, s14.2.2.2.2.2.2.2.2.1,
 s14.2.2.2.2.2.2.2.2.2.1, s14.2.2.2.2.2.2.2.2.2.2.1,
 s14.2.2.2.2.2.2.2.2.2.2.2.1, s14.2.2.2.2.2.2.2.2.2.2.2.2.1,
 s14.2.2.2.2.2.2.2.2.2.2.2.2.2.1,
 s14.2.2.2.2.2.2.2.2.2.2.2.2.2.2.1,
 s14.2.2.2.2.2.2.2.2.2.2.2.2.2.2.2.1,
 s14.2.2.2.2.2.2.2.2.2.2.2.2.2.2.2.2.1, ())
def lint_stops (L : Lps) (p0 : PV) : Option PV :=
 (Ab.asAgg 13 p0).bind fun x0 =>
 (asSl 4 (cell p0 0)).bind fun es1 =>
 (asSl 3 (cell p0 1)).bind fun es2 =>
 (asSl 10 (cell p0 2)).bind fun es3 =>
 (asSl 3 (cell p0 3)).bind fun es4 =>
 (asSl 5 (cell p0 4)).bind fun es5 =>
 (asSl 4 (cell p0 5)).bind fun es6 =>
 (asSl 2 (cell p0 6)).bind fun es7 =>
 (asSl 3 (cell p0 7)).bind fun es8 =>
 (asSl 4 (cell p0 8)).bind fun es9 =>
 (asSl 6 (cell p0 9)).bind fun es10 =>
 (Ab.asInt .i64 (cell p0 10)).bind fun n11 =>
 (Ab.asInt .i64 (cell p0 11)).bind fun n12 =>
 (Ab.asInt .i64 (cell p0 12)).bind fun n13 =>
 L.run (lint_stops_L3 L)
 (es5, (↑es5.length : Int), 0, es1, es2, es3, es4, es5, es6, es7, es8, es9, es10, n11, n12,
 n13, [], ())
def lint_stops_M : List PV → Option PV
  | [p0] => lint_stops lpS p0
  | _ => none
def lint_unpaid_L1 : (Int ×
 Int ×
 List PV ×
 List PV ×
 List PV ×
 List PV ×
 List PV ×
 List PV ×
 List PV × List PV × List PV × List PV × Int × Int × Int × List (PV × PV) × List (PV × PV) × Unit) → (Int ×
 Int ×
 List PV ×
 List PV ×
 List PV ×
 List PV ×
 List PV ×
 List PV ×
 List PV × List PV × List PV × List PV × Int × Int × Int × List (PV × PV) × List (PV × PV) × Unit →
 Option PV) → Option PV := fun s26 rec27 =>
 if decide (s26.2.1 < s26.1) = true then
 (Ab.asBool
 (mlook (PV.int .i64 s26.2.1) (PV.bool false)
 s26.2.2.2.2.2.2.2.2.2.2.2.2.2.2.2.1)).bind
 fun b28 =>
 (bif b28 then some true
 else
 (Ab.asBool
 (mlook (PV.int .i64 s26.2.1) (PV.bool false)
 s26.2.2.2.2.2.2.2.2.2.2.2.2.2.2.2.2.1)).bind
 fun b29 => some !b29).bind
 fun r30 =>
 rec27
 (s26.1, IntKind.i64.wrap (s26.2.1 + 1), s26.2.2.1, s26.2.2.2.1, s26.2.2.2.2.1,
 s26.2.2.2.2.2.1, s26.2.2.2.2.2.2.1, s26.2.2.2.2.2.2.2.1,
 s26.2.2.2.2.2.2.2.2.1, s26.2.2.2.2.2.2.2.2.2.1,
 s26.2.2.2.2.2.2.2.2.2.2.1, s26.2.2.2.2.2.2.2.2.2.2.2.1,
 s26.2.2.2.2.2.2.2.2.2.2.2.2.1,
 s26.2.2.2.2.2.2.2.2.2.2.2.2.2.1,
 s26.2.2.2.2.2.2.2.2.2.2.2.2.2.2.1,
 mput (PV.int .i64 s26.2.1) (PV.bool r30)
 s26.2.2.2.2.2.2.2.2.2.2.2.2.2.2.2.1,
 s26.2.2.2.2.2.2.2.2.2.2.2.2.2.2.2.2.1, ())
else
 some
 (PV.fn 63
 [PV.rp [PV.int .i64 (↑s26.2.2.2.1.length : Int)],
 PV.rp
 [PV.rm 3 (List.map (fun x => x.fst) s26.2.2.2.2.2.2.2.2.2.2.2.2.2.2.2.1)
 (List.map (fun x => x.snd) s26.2.2.2.2.2.2.2.2.2.2.2.2.2.2.2.1)],
 PV.rp [PV.int .i64 7]])
def lint_unpaid_L2 (L : Lps) : (List PV ×
 Int ×
 Int ×
 List PV ×
 List PV ×
 List PV ×
 List PV ×
 List PV ×
 List PV ×
 List PV × List PV × List PV × List PV × Int × Int × Int × List (PV × PV) × List (PV × PV) × Unit) → (List PV ×
 Int ×
 Int ×
 List PV ×
 List PV ×
 List PV ×
 List PV ×
 List PV ×
 List PV ×
 List PV × List PV × List PV × List PV × Int × Int × Int × List (PV × PV) × List (PV × PV) × Unit →
 Option PV) → Option PV := fun s22 rec23 =>
 if decide (s22.2.2.1 < s22.2.1) = true then
 (idxP s22.1 s22.2.2.1).bind fun p24 =>
 (Ab.asInt .i64 (cell p24 1)).bind fun n25 =>
 rec23
 (s22.1, s22.2.1, IntKind.i64.wrap (s22.2.2.1 + 1), s22.2.2.2.1, s22.2.2.2.2.1,
 s22.2.2.2.2.2.1, s22.2.2.2.2.2.2.1, s22.2.2.2.2.2.2.2.1,
 s22.2.2.2.2.2.2.2.2.1, s22.2.2.2.2.2.2.2.2.2.1,
 s22.2.2.2.2.2.2.2.2.2.2.1, s22.2.2.2.2.2.2.2.2.2.2.2.1,
 s22.2.2.2.2.2.2.2.2.2.2.2.2.1,
 s22.2.2.2.2.2.2.2.2.2.2.2.2.2.1,
 s22.2.2.2.2.2.2.2.2.2.2.2.2.2.2.1,
 s22.2.2.2.2.2.2.2.2.2.2.2.2.2.2.2.1,
 s22.2.2.2.2.2.2.2.2.2.2.2.2.2.2.2.2.1,
 mput (PV.int .i64 n25) (PV.bool true)
 s22.2.2.2.2.2.2.2.2.2.2.2.2.2.2.2.2.2.1,
 ())
else
 L.run lint_unpaid_L1
 ((↑s22.2.2.2.2.1.length : Int), 0, s22.2.2.2.1, s22.2.2.2.2.1,
 s22.2.2.2.2.2.1, s22.2.2.2.2.2.2.1, s22.2.2.2.2.2.2.2.1,
 s22.2.2.2.2.2.2.2.2.1, s22.2.2.2.2.2.2.2.2.2.1,
 s22.2.2.2.2.2.2.2.2.2.2.1, s22.2.2.2.2.2.2.2.2.2.2.2.1,
 s22.2.2.2.2.2.2.2.2.2.2.2.2.1,
 s22.2.2.2.2.2.2.2.2.2.2.2.2.2.1,
 s22.2.2.2.2.2.2.2.2.2.2.2.2.2.2.1,
 s22.2.2.2.2.2.2.2.2.2.2.2.2.2.2.2.1,
 s22.2.2.2.2.2.2.2.2.2.2.2.2.2.2.2.2.1,
 s22.2.2.2.2.2.2.2.2.2.2.2.2.2.2.2.2.2.1, ())
def lint_unpaid_L3 (L : Lps) : (Int ×
 List PV ×
 Int ×
 Int ×
 List PV ×
 List PV ×
 List PV ×
 List PV ×
 List PV × List PV × List PV × List PV × List PV × List PV × Int × Int × Int × List (PV × PV) × Unit) → (Int ×
 List PV ×
 Int ×
 Int ×
 List PV ×
 List PV ×
 List PV ×
 List PV ×
 List PV × List PV × List PV × List PV × List PV × List PV × Int × Int × Int × List (PV × PV) × Unit →
 Option PV) → Option PV := fun s18 rec19 =>
 if decide (s18.2.2.2.1 < s18.2.2.1) = true then
 (idxP s18.2.1 s18.2.2.2.1).bind fun p20 =>
 (Ab.asInt .i64 (cell p20 1)).bind fun n21 =>
 if n21 < 0 then none
 else
 rec19
 (s18.1, s18.2.1, s18.2.2.1, IntKind.i64.wrap (s18.2.2.2.1 + 1), s18.2.2.2.2.1,
 s18.2.2.2.2.2.1, s18.2.2.2.2.2.2.1, s18.2.2.2.2.2.2.2.1,
 s18.2.2.2.2.2.2.2.2.1, s18.2.2.2.2.2.2.2.2.2.1,
 s18.2.2.2.2.2.2.2.2.2.2.1, s18.2.2.2.2.2.2.2.2.2.2.2.1,
 s18.2.2.2.2.2.2.2.2.2.2.2.2.1,
 s18.2.2.2.2.2.2.2.2.2.2.2.2.2.1,
 s18.2.2.2.2.2.2.2.2.2.2.2.2.2.2.1,
 s18.2.2.2.2.2.2.2.2.2.2.2.2.2.2.2.1,
 s18.2.2.2.2.2.2.2.2.2.2.2.2.2.2.2.2.1,
 mput (PV.int .i64 s18.2.2.2.1)
 (PV.bool
 (IntKind.i64.wrap
 (↑(BitVec.ofInt IntKind.i64.bits (s18.1.fdiv (2 ^ min n21.toNat IntKind.i64.bits)) &&&
 BitVec.ofInt IntKind.i64.bits 1).toNat :
 Int) ==
 1))
 s18.2.2.2.2.2.2.2.2.2.2.2.2.2.2.2.2.2.1,
 ())
else
 L.run (lint_unpaid_L2 L)
 (s18.2.2.2.2.2.2.2.2.1, (↑s18.2.2.2.2.2.2.2.2.1.length : Int), 0,
 s18.2.2.2.2.1, s18.2.2.2.2.2.1, s18.2.2.2.2.2.2.1,
 s18.2.2.2.2.2.2.2.1, s18.2.2.2.2.2.2.2.2.1,
 s18.2.2.2.2.2.2.2.2.2.1, s18.2.2.2.2.2.2.2.2.2.2.1,
 s18.2.2.2.2.2.2.2.2.2.2.2.1, s18.2.2.2.2.2.2.2.2.2.2.2.2.1,
 s18.2.2.2.2.2.2.2.2.2.2.2.2.2.1,
 s18.2.2.2.2.2.2.2.2.2.2.2.2.2.2.1,
 s18.2.2.2.2.2.2.2.2.2.2.2.2.2.2.2.1,
 s18.2.2.2.2.2.2.2.2.2.2.2.2.2.2.2.2.1,
 s18.2.2.2.2.2.2.2.2.2.2.2.2.2.2.2.2.2.1, [], ())
def lint_unpaid_L4 (L : Lps) : (Int ×
 List PV ×
 Int ×
 Int ×
 List PV ×
 List PV ×
 List PV × List PV × List PV × List PV × List PV × List PV × List PV × List PV × Int × Int × Int × Unit) → (Int ×
 List PV ×
 Int ×
 Int ×
 List PV ×
 List PV ×
 List PV × List PV × List PV × List PV × List PV × List PV × List PV × List PV × Int × Int × Int × Unit →
 Option PV) → Option PV := fun s14 rec15 =>
 if decide (s14.2.2.2.1 < s14.2.2.1) = true then
 (idxP s14.2.1 s14.2.2.2.1).bind fun p16 =>
 (Ab.asInt .i64 (cell p16 5)).bind fun n17 =>
 rec15
 (IntKind.i64.wrap (↑(BitVec.ofInt IntKind.i64.bits s14.1 ||| BitVec.ofInt IntKind.i64.bits n17).toNat : Int),
 s14.2.1, s14.2.2.1, IntKind.i64.wrap (s14.2.2.2.1 + 1), s14.2.2.2.2.1,
 s14.2.2.2.2.2.1, s14.2.2.2.2.2.2.1, s14.2.2.2.2.2.2.2.1,
 s14.2.2.2.2.2.2.2.2.1, s14.2.2.2.2.2.2.2.2.2.1,
 s14.2.2.2.2.2.2.2.2.2.2.1, s14.2.2.2.2.2.2.2.2.2.2.2.1,
 s14.2.2.2.2.2.2.2.2.2.2.2.2.1,
 s14.2.2.2.2.2.2.2.2.2.2.2.2.2.1,
 s14.2.2.2.2.2.2.2.2.2.2.2.2.2.2.1,
 s14.2.2.2.2.2.2.2.2.2.2.2.2.2.2.2.1,
 s14.2.2.2.2.2.2.2.2.2.2.2.2.2.2.2.2.1, ())
else
 L.run (lint_unpaid_L3 L)
 (s14.1, s14.2.2.2.2.2.1, (↑s14.2.2.2.2.2.1.length : Int), 0, s14.2.2.2.2.1,
 s14.2.2.2.2.2.1, s14.2.2.2.2.2.2.1, s14.2.2.2.2.2.2.2.1,
 s14.2.2.2.2.2.2.2.2.1, s14.2.2.2.2.2.2.2.2.2.1,
 s14.2.2.2.2.2.2.2.2.2.2.1, s14.2.2.2.2.2.2.2.2.2.2.2.1,
 s14.2.2.2.2.2.2.2.2.2.2.2.2.1,
 s14.2.2.2.2.2.2.2.2.2.2.2.2.2.1,
 s14.2.2.2.2.2.2.2.2.2.2.2.2.2.2.1,
 s14.2.2.2.2.2.2.2.2.2.2.2.2.2.2.2.1,
 s14.2.2.2.2.2.2.2.2.2.2.2.2.2.2.2.2.1, [], ())
def lint_unpaid (L : Lps) (p0 : PV) : Option PV :=
 (Ab.asAgg 13 p0).bind fun x0 =>
 (asSl 4 (cell p0 0)).bind fun es1 =>
 (asSl 3 (cell p0 1)).bind fun es2 =>
 (asSl 10 (cell p0 2)).bind fun es3 =>
 (asSl 3 (cell p0 3)).bind fun es4 =>
 (asSl 5 (cell p0 4)).bind fun es5 =>
 (asSl 4 (cell p0 5)).bind fun es6 =>
 (asSl 2 (cell p0 6)).bind fun es7 =>
 (asSl 3 (cell p0 7)).bind fun es8 =>
 (asSl 4 (cell p0 8)).bind fun es9 =>
 (asSl 6 (cell p0 9)).bind fun es10 =>
 (Ab.asInt .i64 (cell p0 10)).bind fun n11 =>
 (Ab.asInt .i64 (cell p0 11)).bind fun n12 =>
 (Ab.asInt .i64 (cell p0 12)).bind fun n13 =>
 L.run (lint_unpaid_L4 L)
 (0, es10, (↑es10.length : Int), 0, es1, es2, es3, es4, es5, es6, es7, es8, es9, es10, n11,
 n12, n13, ())
def lint_unpaid_M : List PV → Option PV
  | [p0] => lint_unpaid lpS p0
  | _ => none
def lint_unreachable_L1 (rec15 : List PV ×
 Int ×
 Int ×
 List PV ×
 List PV ×
 List PV ×
 List PV ×
 List PV × List PV × List PV × List PV × List PV × List PV × Int × Int × Int × List (PV × PV) × Unit →
 Option PV) : (List PV ×
 Int ×
 Int ×
 List PV ×
 Int ×
 Int ×
 List PV ×
 List PV ×
 List PV ×
 List PV ×
 List PV × List PV × List PV × List PV × List PV × List PV × Int × Int × Int × List (PV × PV) × Unit) → (List PV ×
 Int ×
 Int ×
 List PV ×
 Int ×
 Int ×
 List PV ×
 List PV ×
 List PV ×
 List PV ×
 List PV ×
 List PV × List PV × List PV × List PV × List PV × Int × Int × Int × List (PV × PV) × Unit →
 Option PV) → Option PV := fun s18 rec19 =>
 if decide (s18.2.2.2.2.2.1 < s18.2.2.2.2.1) = true then
 (idxP s18.2.2.2.1 s18.2.2.2.2.2.1).bind fun p20 =>
 (bif decide (s18.2.2.2.2.2.1 > 0) then (Ab.asBool (cell p20 4)).bind fun b21 => some b21
 else some false).bind
 fun r22 =>
 if r22 = true then
 (Ab.asInt .i64 (cell p20 0)).bind fun n23 =>
 rec19
 (s18.1, s18.2.1, s18.2.2.1, s18.2.2.2.1, s18.2.2.2.2.1,
 IntKind.i64.wrap (s18.2.2.2.2.2.1 + 1), s18.2.2.2.2.2.2.1,
 s18.2.2.2.2.2.2.2.1, s18.2.2.2.2.2.2.2.2.1,
 s18.2.2.2.2.2.2.2.2.2.1, s18.2.2.2.2.2.2.2.2.2.2.1,
 s18.2.2.2.2.2.2.2.2.2.2.2.1,
 s18.2.2.2.2.2.2.2.2.2.2.2.2.1,
 s18.2.2.2.2.2.2.2.2.2.2.2.2.2.1,
 s18.2.2.2.2.2.2.2.2.2.2.2.2.2.2.1,
 s18.2.2.2.2.2.2.2.2.2.2.2.2.2.2.2.1,
 s18.2.2.2.2.2.2.2.2.2.2.2.2.2.2.2.2.1,
 s18.2.2.2.2.2.2.2.2.2.2.2.2.2.2.2.2.2.1,
 s18.2.2.2.2.2.2.2.2.2.2.2.2.2.2.2.2.2.2.1,
 mput (PV.int .i64 n23) (PV.bool true)
 s18.2.2.2.2.2.2.2.2.2.2.2.2.2.2.2.2.2.2.2.1,
 ())
 else
 rec19
 (s18.1, s18.2.1, s18.2.2.1, s18.2.2.2.1, s18.2.2.2.2.1,
 IntKind.i64.wrap (s18.2.2.2.2.2.1 + 1), s18.2.2.2.2.2.2.1,
 s18.2.2.2.2.2.2.2.1, s18.2.2.2.2.2.2.2.2.1,
 s18.2.2.2.2.2.2.2.2.2.1, s18.2.2.2.2.2.2.2.2.2.2.1,
 s18.2.2.2.2.2.2.2.2.2.2.2.1,
 s18.2.2.2.2.2.2.2.2.2.2.2.2.1,
 s18.2.2.2.2.2.2.2.2.2.2.2.2.2.1,
 s18.2.2.2.2.2.2.2.2.2.2.2.2.2.2.1,
 s18.2.2.2.2.2.2.2.2.2.2.2.2.2.2.2.1,
 s18.2.2.2.2.2.2.2.2.2.2.2.2.2.2.2.2.1,
 s18.2.2.2.2.2.2.2.2.2.2.2.2.2.2.2.2.2.1,
 s18.2.2.2.2.2.2.2.2.2.2.2.2.2.2.2.2.2.2.1,
 s18.2.2.2.2.2.2.2.2.2.2.2.2.2.2.2.2.2.2.2.1, ())
else
 rec15
 (s18.1, s18.2.1, IntKind.i64.wrap (s18.2.2.1 + 1), s18.2.2.2.2.2.2.1,
 s18.2.2.2.2.2.2.2.1, s18.2.2.2.2.2.2.2.2.1,
 s18.2.2.2.2.2.2.2.2.2.1, s18.2.2.2.2.2.2.2.2.2.2.1,
 s18.2.2.2.2.2.2.2.2.2.2.2.1, s18.2.2.2.2.2.2.2.2.2.2.2.2.1,
 s18.2.2.2.2.2.2.2.2.2.2.2.2.2.1,
 s18.2.2.2.2.2.2.2.2.2.2.2.2.2.2.1,
 s18.2.2.2.2.2.2.2.2.2.2.2.2.2.2.2.1,
 s18.2.2.2.2.2.2.2.2.2.2.2.2.2.2.2.2.1,
 s18.2.2.2.2.2.2.2.2.2.2.2.2.2.2.2.2.2.1,
 s18.2.2.2.2.2.2.2.2.2.2.2.2.2.2.2.2.2.2.1,
 s18.2.2.2.2.2.2.2.2.2.2.2.2.2.2.2.2.2.2.2.1, ())
def lint_unreachable_L2 : (List PV ×
 Int ×
 Int ×
 List PV ×
 List PV ×
 List PV ×
 List PV ×
 List PV × List PV × List PV × List PV × List PV × List PV × Int × Int × Int × List (PV × PV) × Unit) → (List PV ×
 Int ×
 Int ×
 List PV ×
 List PV ×
 List PV ×
 List PV ×
 List PV × List PV × List PV × List PV × List PV × List PV × Int × Int × Int × List (PV × PV) × Unit →
 Option PV) → Option PV := fun s24 rec25 =>
 if decide (s24.2.2.1 < s24.2.1) = true then
 (idxP s24.1 s24.2.2.1).bind fun p26 =>
 (Ab.asInt .i64 (cell p26 1)).bind fun n27 =>
 rec25
 (s24.1, s24.2.1, IntKind.i64.wrap (s24.2.2.1 + 1), s24.2.2.2.1, s24.2.2.2.2.1,
 s24.2.2.2.2.2.1, s24.2.2.2.2.2.2.1, s24.2.2.2.2.2.2.2.1,
 s24.2.2.2.2.2.2.2.2.1, s24.2.2.2.2.2.2.2.2.2.1,
 s24.2.2.2.2.2.2.2.2.2.2.1, s24.2.2.2.2.2.2.2.2.2.2.2.1,
 s24.2.2.2.2.2.2.2.2.2.2.2.2.1,
 s24.2.2.2.2.2.2.2.2.2.2.2.2.2.1,
 s24.2.2.2.2.2.2.2.2.2.2.2.2.2.2.1,
 s24.2.2.2.2.2.2.2.2.2.2.2.2.2.2.2.1,
 mput (PV.int .i64 n27) (PV.bool true)
 s24.2.2.2.2.2.2.2.2.2.2.2.2.2.2.2.2.1,
 ())
else
 some
 (PV.fn 63
 [PV.rp [PV.int .i64 (↑s24.2.2.2.1.length : Int)],
 PV.rp
 [PV.rm 3 (List.map (fun x => x.fst) s24.2.2.2.2.2.2.2.2.2.2.2.2.2.2.2.2.1)
 (List.map (fun x => x.snd) s24.2.2.2.2.2.2.2.2.2.2.2.2.2.2.2.2.1)],
 PV.rp [PV.int .i64 6]])
def lint_unreachable_L3 (L : Lps) : (List PV ×
 Int ×
 Int ×
 List PV ×
 List PV ×
 List PV ×
 List PV ×
 List PV × List PV × List PV × List PV × List PV × List PV × Int × Int × Int × List (PV × PV) × Unit) → (List PV ×
 Int ×
 Int ×
 List PV ×
 List PV ×
 List PV ×
 List PV ×
 List PV × List PV × List PV × List PV × List PV × List PV × Int × Int × Int × List (PV × PV) × Unit →
 Option PV) → Option PV := fun s14 rec15 =>
 if decide (s14.2.2.1 < s14.2.1) = true then
 (idxP s14.1 s14.2.2.1).bind fun p16 =>
 (asSl 5 (cell p16 4)).bind fun es17 =>
 L.run (lint_unreachable_L1 rec15)
 (s14.1, s14.2.1, s14.2.2.1, es17, (↑es17.length : Int), 0, s14.2.2.2.1,
 s14.2.2.2.2.1, s14.2.2.2.2.2.1, s14.2.2.2.2.2.2.1,
 s14.2.2.2.2.2.2.2.1, s14.2.2.2.2.2.2.2.2.1,
 s14.2.2.2.2.2.2.2.2.2.1, s14.2.2.2.2.2.2.2.2.2.2.1,
 s14.2.2.2.2.2.2.2.2.2.2.2.1, s14.2.2.2.2.2.2.2.2.2.2.2.2.1,
 s14.2.2.2.2.2.2.2.2.2.2.2.2.2.1,
 s14.2.2.2.2.2.2.2.2.2.2.2.2.2.2.1,
 s14.2.2.2.2.2.2.2.2.2.2.2.2.2.2.2.1,
 s14.2.2.2.2.2.2.2.2.2.2.2.2.2.2.2.2.1, ())
else
 L.run lint_unreachable_L2
 (s14.2.2.2.2.2.2.2.2.2.2.2.1,
 (↑s14.2.2.2.2.2.2.2.2.2.2.2.1.length : Int), 0, s14.2.2.2.1,
 s14.2.2.2.2.1, s14.2.2.2.2.2.1, s14.2.2.2.2.2.2.1,
 s14.2.2.2.2.2.2.2.1, s14.2.2.2.2.2.2.2.2.1,
 s14.2.2.2.2.2.2.2.2.2.1, s14.2.2.2.2.2.2.2.2.2.2.1,
 s14.2.2.2.2.2.2.2.2.2.2.2.1, s14.2.2.2.2.2.2.2.2.2.2.2.2.1,
 s14.2.2.2.2.2.2.2.2.2.2.2.2.2.1,
 s14.2.2.2.2.2.2.2.2.2.2.2.2.2.2.1,
 s14.2.2.2.2.2.2.2.2.2.2.2.2.2.2.2.1,
 s14.2.2.2.2.2.2.2.2.2.2.2.2.2.2.2.2.1, ())
def lint_unreachable (L : Lps) (p0 : PV) : Option PV :=
 (Ab.asAgg 13 p0).bind fun x0 =>
 (asSl 4 (cell p0 0)).bind fun es1 =>
 (asSl 3 (cell p0 1)).bind fun es2 =>
 (asSl 10 (cell p0 2)).bind fun es3 =>
 (asSl 3 (cell p0 3)).bind fun es4 =>
 (asSl 5 (cell p0 4)).bind fun es5 =>
 (asSl 4 (cell p0 5)).bind fun es6 =>
 (asSl 2 (cell p0 6)).bind fun es7 =>
 (asSl 3 (cell p0 7)).bind fun es8 =>
 (asSl 4 (cell p0 8)).bind fun es9 =>
 (asSl 6 (cell p0 9)).bind fun es10 =>
 (Ab.asInt .i64 (cell p0 10)).bind fun n11 =>
 (Ab.asInt .i64 (cell p0 11)).bind fun n12 =>
 (Ab.asInt .i64 (cell p0 12)).bind fun n13 =>
 L.run (lint_unreachable_L3 L)
 (es5, (↑es5.length : Int), 0, es1, es2, es3, es4, es5, es6, es7, es8, es9, es10, n11, n12,
 n13, [], ())
def lint_unreachable_M : List PV → Option PV
  | [p0] => lint_unreachable lpS p0
  | _ => none
def ident_Valid_L1 : (Bytes × Int × Unit) → (Bytes × Int × Unit → Option PV) → Option PV := fun s1 rec2 =>
 if decide (s1.2.1 < (↑(List.length s1.1) : Int)) = true then
 (idxB s1.1 s1.2.1).bind fun b3 =>
 (bif decide (97 ≤ (↑b3.toNat : Int)) then some (decide ((↑b3.toNat : Int) ≤ 122)) else some false).bind fun r4 =>
 if r4 = true then rec2 (s1.1, IntKind.i64.wrap (s1.2.1 + 1), ())
 else
 (bif decide (65 ≤ (↑b3.toNat : Int)) then some (decide ((↑b3.toNat : Int) ≤ 90)) else some false).bind fun r5 =>
 if r5 = true then rec2 (s1.1, IntKind.i64.wrap (s1.2.1 + 1), ())
 else
 (bif decide (48 ≤ (↑b3.toNat : Int)) then some (decide ((↑b3.toNat : Int) ≤ 57)) else some false).bind
 fun r6 =>
 if r6 = true then rec2 (s1.1, IntKind.i64.wrap (s1.2.1 + 1), ())
 else
 if ((↑b3.toNat : Int) == 45) = true then rec2 (s1.1, IntKind.i64.wrap (s1.2.1 + 1), ())
 else
 if ((↑b3.toNat : Int) == 95) = true then rec2 (s1.1, IntKind.i64.wrap (s1.2.1 + 1), ())
 else
 if ((↑b3.toNat : Int) == 46) = true then rec2 (s1.1, IntKind.i64.wrap (s1.2.1 + 1), ())
 else some (PV.bool false)
else
 (bif decide ((↑(List.length s1.1) : Int) > 0) then some (decide ((↑(List.length s1.1) : Int) ≤ 32))
 else some false).bind
 fun r7 => some (PV.bool r7)
def ident_Valid (L : Lps) (p0 : PV) : Option PV :=
 (asStr p0).bind fun s0 => L.run ident_Valid_L1 (s0, 0, ())
def ident_Valid_M : List PV → Option PV
  | [p0] => ident_Valid lpS p0
  | _ => none
def stop_Check_L1 : (List PV × Int × Int × List (PV × PV) × Unit) → (List PV × Int × Int × List (PV × PV) × Unit → Option PV) → Option PV := fun s1 rec2 =>
 if decide (s1.2.2.1 < s1.2.1) = true then
 (idxP s1.1 s1.2.2.1).bind fun p3 =>
 (asStr (cell p3 0)).bind fun s4 =>
 (ident_Valid_M [PV.str s4]).bind fun r5 =>
 (Ab.asBool r5).bind fun b6 =>
 if (!b6) = true then some (PV.tup [PV.int .i64 s1.2.2.1, PV.int .i64 12])
 else
 (asStr (cell p3 0)).bind fun s7 =>
 (Ab.asBool (mlook (PV.str s7) (PV.bool false) s1.2.2.2.1)).bind fun b8 =>
 if b8 = true then some (PV.tup [PV.int .i64 s1.2.2.1, PV.int .i64 6])
 else
 (Ab.asInt .i64 (cell p3 1)).bind fun n9 =>
 (bif decide (n9 < 0) then some true
 else (Ab.asInt .i64 (cell p3 1)).bind fun n10 => some (decide (n10 ≥ 16))).bind
 fun r11 =>
 (bif r11 then some true
 else (Ab.asInt .i64 (cell p3 3)).bind fun n12 => some (decide (n12 < 0))).bind
 fun r13 =>
 (bif r13 then some true
 else (Ab.asInt .i64 (cell p3 3)).bind fun n14 => some (decide (n14 > 3600))).bind
 fun r15 =>
 if r15 = true then some (PV.tup [PV.int .i64 s1.2.2.1, PV.int .i64 2])
 else
 (asStr (cell p3 0)).bind fun s16 =>
 rec2
 (s1.1, s1.2.1, IntKind.i64.wrap (s1.2.2.1 + 1),
 mput (PV.str s16) (PV.bool true) s1.2.2.2.1, ())
else some (PV.tup [PV.int .i64 0, PV.int .i64 0])
def stop_Check (L : Lps) (p0 : PV) : Option PV :=
 (asSl 4 p0).bind fun es0 =>
 if decide ((↑es0.length : Int) > 64) = true then some (PV.tup [PV.int .i64 0, PV.int .i64 5])
 else L.run stop_Check_L1 (es0, (↑es0.length : Int), 0, [], ())
def stop_Check_M : List PV → Option PV
  | [p0] => stop_Check lpS p0
  | _ => none
def timetable_Check_1 (L : Lps) (c0 : PV) (c1 : PV) (c2 : PV) (c3 : PV) (c4 : PV) (c5 : PV) (c6 : PV) (c7 : PV) (c8 : PV) (c9 : PV) (c10 : PV) (c11 : PV) (c12 : PV) : Option
 PV :=
 (asSl 4 c0).bind fun es0 =>
 (stop_Check_M [PV.rs 4 es0]).bind fun r1 =>
 (asTup 2 r1).bind fun vs2 =>
 (Ab.asInt .i64 (vs2.getD 0 .bad)).bind fun n3 =>
 (Ab.asInt .i64 (vs2.getD 1 .bad)).bind fun n4 =>
 some (PV.tup [PV.int .i64 n3, PV.int .i64 n4])
def timetable_Check_1_M : List PV → Option PV
  | [PV.rp [c0, c1, c2, c3, c4, c5, c6, c7, c8, c9, c10, c11, c12]] => timetable_Check_1 lpS c0 c1 c2 c3 c4 c5 c6 c7 c8 c9 c10 c11 c12
  | _ => none
def product_within (L : Lps) (p0 : PV) (p1 : PV) (p2 : PV) : Option PV :=
 (Ab.asInt .i64 p0).bind fun n0 =>
 (Ab.asInt .i64 p1).bind fun n1 =>
 (Ab.asInt .i64 p2).bind fun n2 =>
 (bif decide (n0 ≥ n1) then some (decide (n0 ≤ n2)) else some false).bind fun r3 => some (PV.bool r3)
def product_within_M : List PV → Option PV
  | [p0, p1, p2] => product_within lpS p0 p1 p2
  | _ => none
def product_Check_L1 : (List PV × Int × Int × List (PV × PV) × Unit) → (List PV × Int × Int × List (PV × PV) × Unit → Option PV) → Option PV := fun s13 rec14 =>
 if decide (s13.2.2.1 < s13.2.1) = true then
 (idxP s13.1 s13.2.2.1).bind fun p15 =>
 (asStr (cell p15 0)).bind fun s16 =>
 (ident_Valid_M [PV.str s16]).bind fun r17 =>
 (Ab.asBool r17).bind fun b18 =>
 if (!b18) = true then some (PV.tup [PV.int .i64 s13.2.2.1, PV.int .i64 12])
 else
 (asStr (cell p15 0)).bind fun s19 =>
 (Ab.asBool (mlook (PV.str s19) (PV.bool false) s13.2.2.2.1)).bind fun b20 =>
 if b20 = true then some (PV.tup [PV.int .i64 s13.2.2.1, PV.int .i64 6])
 else
 (Ab.asInt .i64 (cell p15 1)).bind fun n21 =>
 (product_within_M [PV.int .i64 n21, PV.int .i64 0, PV.int .i64 1000000]).bind
 fun r22 =>
 (Ab.asBool r22).bind fun b23 =>
 (bif !b23 then some true
 else
 (Ab.asInt .i64 (cell p15 2)).bind fun n24 =>
 (product_within_M
 [PV.int .i64 n24, PV.int .i64 1, PV.int .i64 8]).bind
 fun r25 => (Ab.asBool r25).bind fun b26 => some !b26).bind
 fun r27 =>
 (bif r27 then some true
 else
 (Ab.asInt .i64 (cell p15 3)).bind fun n28 =>
 (product_within_M
 [PV.int .i64 n28, PV.int .i64 1, PV.int .i64 16]).bind
 fun r29 => (Ab.asBool r29).bind fun b30 => some !b30).bind
 fun r31 =>
 (bif r31 then some true
 else
 (Ab.asInt .i64 (cell p15 4)).bind fun n32 =>
 (product_within_M
 [PV.int .i64 n32, PV.int .i64 0, PV.int .i64 86400]).bind
 fun r33 => (Ab.asBool r33).bind fun b34 => some !b34).bind
 fun r35 =>
 (bif r35 then some true
 else
 (Ab.asInt .i64 (cell p15 5)).bind fun n36 =>
 (product_within_M
 [PV.int .i64 n36, PV.int .i64 1, PV.int .i64 255]).bind
 fun r37 => (Ab.asBool r37).bind fun b38 => some !b38).bind
 fun r39 =>
 if r39 = true then
 some (PV.tup [PV.int .i64 s13.2.2.1, PV.int .i64 2])
 else
 (asStr (cell p15 0)).bind fun s40 =>
 rec14
 (s13.1, s13.2.1, IntKind.i64.wrap (s13.2.2.1 + 1),
 mput (PV.str s40) (PV.bool true) s13.2.2.2.1, ())
else some (PV.tup [PV.int .i64 0, PV.int .i64 0])
def product_Check (L : Lps) (p0 : PV) : Option PV :=
 (Ab.asAgg 4 p0).bind fun x0 =>
 (asSl 6 (cell p0 0)).bind fun es1 =>
 (Ab.asInt .i64 (cell p0 1)).bind fun n2 =>
 (Ab.asInt .i64 (cell p0 2)).bind fun n3 =>
 (Ab.asInt .i64 (cell p0 3)).bind fun n4 =>
 (product_within_M [PV.int .i64 n2, PV.int .i64 0, PV.int .i64 1000000]).bind fun r5 =>
 (Ab.asBool r5).bind fun b6 =>
 (bif !b6 then some true
 else
 (product_within_M [PV.int .i64 n3, PV.int .i64 0, PV.int .i64 86400]).bind
 fun r7 => (Ab.asBool r7).bind fun b8 => some !b8).bind
 fun r9 =>
 (bif r9 then some true
 else
 (product_within_M [PV.int .i64 n4, PV.int .i64 0, PV.int .i64 1000000]).bind
 fun r10 => (Ab.asBool r10).bind fun b11 => some !b11).bind
 fun r12 =>
 if r12 = true then some (PV.tup [PV.int .i64 (-1), PV.int .i64 2])
 else
 if decide ((↑es1.length : Int) > 16) = true then
 some (PV.tup [PV.int .i64 0, PV.int .i64 5])
 else L.run product_Check_L1 (es1, (↑es1.length : Int), 0, [], ())
def product_Check_M : List PV → Option PV
  | [p0] => product_Check lpS p0
  | _ => none
def timetable_Check_10 (L : Lps) (c0 : PV) (c1 : PV) (c2 : PV) (c3 : PV) (c4 : PV) (c5 : PV) (c6 : PV) (c7 : PV) (c8 : PV) (c9 : PV) (c10 : PV) (c11 : PV) (c12 : PV) : Option
 PV :=
 (product_Check_M [PV.agg [c9, c10, c11, c12]]).bind fun r0 =>
 (asTup 2 r0).bind fun vs1 =>
 (Ab.asInt .i64 (vs1.getD 0 .bad)).bind fun n2 =>
 (Ab.asInt .i64 (vs1.getD 1 .bad)).bind fun n3 =>
 some (PV.tup [PV.int .i64 n2, PV.int .i64 n3])
def timetable_Check_10_M : List PV → Option PV
  | [PV.rp [c0, c1, c2, c3, c4, c5, c6, c7, c8, c9, c10, c11, c12]] => timetable_Check_10 lpS c0 c1 c2 c3 c4 c5 c6 c7 c8 c9 c10 c11 c12
  | _ => none
def route_known (L : Lps) (p0 : PV) : Option PV :=
 (Ab.asInt .i64 p0).bind fun n0 =>
 (bif decide (n0 ≥ 0) then some (decide (n0 < 8)) else some false).bind fun r1 => some (PV.bool r1)
def route_known_M : List PV → Option PV
  | [p0] => route_known lpS p0
  | _ => none
def route_Check_L1 : (List PV × Int × Int × List (PV × PV) × Unit) → (List PV × Int × Int × List (PV × PV) × Unit → Option PV) → Option PV := fun s1 rec2 =>
 if decide (s1.2.2.1 < s1.2.1) = true then
 (idxP s1.1 s1.2.2.1).bind fun p3 =>
 (asStr (cell p3 0)).bind fun s4 =>
 (ident_Valid_M [PV.str s4]).bind fun r5 =>
 (Ab.asBool r5).bind fun b6 =>
 if (!b6) = true then some (PV.tup [PV.int .i64 s1.2.2.1, PV.int .i64 12])
 else
 (asStr (cell p3 0)).bind fun s7 =>
 (Ab.asBool (mlook (PV.str s7) (PV.bool false) s1.2.2.2.1)).bind fun b8 =>
 if b8 = true then some (PV.tup [PV.int .i64 s1.2.2.1, PV.int .i64 6])
 else
 (Ab.asInt .i64 (cell p3 1)).bind fun n9 =>
 (route_known_M [PV.int .i64 n9]).bind fun r10 =>
 (Ab.asBool r10).bind fun b11 =>
 if (!b11) = true then some (PV.tup [PV.int .i64 s1.2.2.1, PV.int .i64 2])
 else
 (asStr (cell p3 0)).bind fun s12 =>
 rec2
 (s1.1, s1.2.1, IntKind.i64.wrap (s1.2.2.1 + 1),
 mput (PV.str s12) (PV.bool true) s1.2.2.2.1, ())
else some (PV.tup [PV.int .i64 0, PV.int .i64 0])
def route_Check (L : Lps) (p0 : PV) : Option PV :=
 (asSl 3 p0).bind fun es0 =>
 if decide ((↑es0.length : Int) > 64) = true then some (PV.tup [PV.int .i64 0, PV.int .i64 5])
 else L.run route_Check_L1 (es0, (↑es0.length : Int), 0, [], ())
def route_Check_M : List PV → Option PV
  | [p0] => route_Check lpS p0
  | _ => none
def timetable_Check_2 (L : Lps) (c0 : PV) (c1 : PV) (c2 : PV) (c3 : PV) (c4 : PV) (c5 : PV) (c6 : PV) (c7 : PV) (c8 : PV) (c9 : PV) (c10 : PV) (c11 : PV) (c12 : PV) : Option
 PV :=
 (asSl 3 c1).bind fun es0 =>
 (route_Check_M [PV.rs 3 es0]).bind fun r1 =>
 (asTup 2 r1).bind fun vs2 =>
 (Ab.asInt .i64 (vs2.getD 0 .bad)).bind fun n3 =>
 (Ab.asInt .i64 (vs2.getD 1 .bad)).bind fun n4 =>
 some (PV.tup [PV.int .i64 n3, PV.int .i64 n4])
def timetable_Check_2_M : List PV → Option PV
  | [PV.rp [c0, c1, c2, c3, c4, c5, c6, c7, c8, c9, c10, c11, c12]] => timetable_Check_2 lpS c0 c1 c2 c3 c4 c5 c6 c7 c8 c9 c10 c11 c12
  | _ => none
def calendar_Check_L1 : (List PV × Int × Int × List (PV × PV) × Unit) → (List PV × Int × Int × List (PV × PV) × Unit → Option PV) → Option PV := fun s1 rec2 =>
 if decide (s1.2.2.1 < s1.2.1) = true then
 (idxP s1.1 s1.2.2.1).bind fun p3 =>
 (asStr (cell p3 0)).bind fun s4 =>
 (ident_Valid_M [PV.str s4]).bind fun r5 =>
 (Ab.asBool r5).bind fun b6 =>
 if (!b6) = true then some (PV.tup [PV.int .i64 s1.2.2.1, PV.int .i64 12])
 else
 (asStr (cell p3 0)).bind fun s7 =>
 (Ab.asBool (mlook (PV.str s7) (PV.bool false) s1.2.2.2.1)).bind fun b8 =>
 if b8 = true then some (PV.tup [PV.int .i64 s1.2.2.1, PV.int .i64 6])
 else
 (Ab.asInt .i64 (cell p3 8)).bind fun n9 =>
 (date_Valid_M [PV.int .i64 n9]).bind fun r10 =>
 (Ab.asBool r10).bind fun b11 =>
 if (!b11) = true then some (PV.tup [PV.int .i64 s1.2.2.1, PV.int .i64 11])
 else
 (Ab.asInt .i64 (cell p3 9)).bind fun n12 =>
 (date_Valid_M [PV.int .i64 n12]).bind fun r13 =>
 (Ab.asBool r13).bind fun b14 =>
 if (!b14) = true then
 some (PV.tup [PV.int .i64 s1.2.2.1, PV.int .i64 11])
 else
 (Ab.asInt .i64 (cell p3 8)).bind fun n15 =>
 (Ab.asInt .i64 (cell p3 9)).bind fun n16 =>
 if decide (n15 > n16) = true then
 some (PV.tup [PV.int .i64 s1.2.2.1, PV.int .i64 11])
 else
 (asStr (cell p3 0)).bind fun s17 =>
 rec2
 (s1.1, s1.2.1, IntKind.i64.wrap (s1.2.2.1 + 1),
 mput (PV.str s17) (PV.bool true) s1.2.2.2.1, ())
else some (PV.tup [PV.int .i64 0, PV.int .i64 0])
def calendar_Check (L : Lps) (p0 : PV) : Option PV :=
 (asSl 10 p0).bind fun es0 =>
 if decide ((↑es0.length : Int) > 64) = true then some (PV.tup [PV.int .i64 0, PV.int .i64 5])
 else L.run calendar_Check_L1 (es0, (↑es0.length : Int), 0, [], ())
def calendar_Check_M : List PV → Option PV
  | [p0] => calendar_Check lpS p0
  | _ => none
def timetable_Check_3 (L : Lps) (c0 : PV) (c1 : PV) (c2 : PV) (c3 : PV) (c4 : PV) (c5 : PV) (c6 : PV) (c7 : PV) (c8 : PV) (c9 : PV) (c10 : PV) (c11 : PV) (c12 : PV) : Option
 PV :=
 (asSl 10 c2).bind fun es0 =>
 (calendar_Check_M [PV.rs 10 es0]).bind fun r1 =>
 (asTup 2 r1).bind fun vs2 =>
 (Ab.asInt .i64 (vs2.getD 0 .bad)).bind fun n3 =>
 (Ab.asInt .i64 (vs2.getD 1 .bad)).bind fun n4 =>
 some (PV.tup [PV.int .i64 n3, PV.int .i64 n4])
def timetable_Check_3_M : List PV → Option PV
  | [PV.rp [c0, c1, c2, c3, c4, c5, c6, c7, c8, c9, c10, c11, c12]] => timetable_Check_3 lpS c0 c1 c2 c3 c4 c5 c6 c7 c8 c9 c10 c11 c12
  | _ => none
def calendar_CheckExceptions_L1 : (Int × List PV × Int × Int × List (PV × PV) × Unit) → (Int × List PV × Int × Int × List (PV × PV) × Unit → Option PV) → Option PV := fun s2 rec3 =>
 if decide (s2.2.2.2.1 < s2.2.2.1) = true then
 (idxP s2.2.1 s2.2.2.2.1).bind fun p4 =>
 (Ab.asInt .i64 (cell p4 0)).bind fun n5 =>
 (Ab.asInt .i64 (cell p4 1)).bind fun n6 =>
 (Ab.asInt .i64 (cell p4 0)).bind fun n7 =>
 (bif decide (n7 < 0) then some true
 else (Ab.asInt .i64 (cell p4 0)).bind fun n8 => some (decide (n8 ≥ s2.1))).bind
 fun r9 =>
 if r9 = true then some (PV.tup [PV.int .i64 s2.2.2.2.1, PV.int .i64 9])
 else
 (Ab.asInt .i64 (cell p4 1)).bind fun n10 =>
 (date_Valid_M [PV.int .i64 n10]).bind fun r11 =>
 (Ab.asBool r11).bind fun b12 =>
 if (!b12) = true then some (PV.tup [PV.int .i64 s2.2.2.2.1, PV.int .i64 11])
 else
 (Ab.asBool
 (mlook (PV.agg [PV.int .i64 n5, PV.int .i64 n6]) (PV.bool false)
 s2.2.2.2.2.1)).bind
 fun b13 =>
 if b13 = true then some (PV.tup [PV.int .i64 s2.2.2.2.1, PV.int .i64 6])
 else
 rec3
 (s2.1, s2.2.1, s2.2.2.1, IntKind.i64.wrap (s2.2.2.2.1 + 1),
 mput (PV.agg [PV.int .i64 n5, PV.int .i64 n6]) (PV.bool true)
 s2.2.2.2.2.1,
 ())
else some (PV.tup [PV.int .i64 0, PV.int .i64 0])
def calendar_CheckExceptions (L : Lps) (p0 : PV) (p1 : PV) : Option PV :=
 (asSl 3 p0).bind fun es0 =>
 (Ab.asInt .i64 p1).bind fun n1 =>
 if decide ((↑es0.length : Int) > 256) = true then some (PV.tup [PV.int .i64 0, PV.int .i64 5])
 else L.run calendar_CheckExceptions_L1 (n1, es0, (↑es0.length : Int), 0, [], ())
def calendar_CheckExceptions_M : List PV → Option PV
  | [p0, p1] => calendar_CheckExceptions lpS p0 p1
  | _ => none
def timetable_Check_4 (L : Lps) (c0 : PV) (c1 : PV) (c2 : PV) (c3 : PV) (c4 : PV) (c5 : PV) (c6 : PV) (c7 : PV) (c8 : PV) (c9 : PV) (c10 : PV) (c11 : PV) (c12 : PV) (c13 : PV) : Option
 PV :=
 (asSl 3 c3).bind fun es0 =>
 (Ab.asInt .i64 c13).bind fun n1 =>
 (calendar_CheckExceptions_M [PV.rs 3 es0, PV.int .i64 n1]).bind fun r2 =>
 (asTup 2 r2).bind fun vs3 =>
 (Ab.asInt .i64 (vs3.getD 0 .bad)).bind fun n4 =>
 (Ab.asInt .i64 (vs3.getD 1 .bad)).bind fun n5 =>
 some (PV.tup [PV.int .i64 n4, PV.int .i64 n5])
def timetable_Check_4_M : List PV → Option PV
  | [PV.rp [c0, c1, c2, c3, c4, c5, c6, c7, c8, c9, c10, c11, c12], PV.rp [c13]] => timetable_Check_4 lpS c0 c1 c2 c3 c4 c5 c6 c7 c8 c9 c10 c11 c12 c13
  | _ => none
def call_one (L : Lps) (p0 : PV) (p1 : PV) (p2 : PV) (p3 : PV) (p4 : PV) : Option PV :=
 (asSl 5 p0).bind fun es0 =>
 (Ab.asInt .i64 p1).bind fun n1 =>
 (Ab.asInt .i64 p2).bind fun n2 =>
 (Ab.asInt .i64 p3).bind fun n3 =>
 (Ab.asInt .i64 p4).bind fun n4 =>
 (idxP es0 n1).bind fun p5 =>
 (Ab.asInt .i64 (cell p5 0)).bind fun n6 =>
 (bif decide (n6 < 0) then some true
 else (Ab.asInt .i64 (cell p5 0)).bind fun n7 => some (decide (n7 ≥ n2))).bind
 fun r8 =>
 if r8 = true then some (PV.int .i64 9)
 else
 (bif decide (n1 > 0) then
 (idxP es0 (IntKind.i64.wrap (n1 - 1))).bind fun p9 =>
 (Ab.asInt .i64 (cell p9 0)).bind fun n10 =>
 (Ab.asInt .i64 (cell p5 0)).bind fun n11 => some (n10 == n11)
 else some false).bind
 fun r12 =>
 if r12 = true then some (PV.int .i64 13)
 else
 (Ab.asInt .i64 (cell p5 1)).bind fun n13 =>
 (bif decide (n13 < n3) then some true
 else
 (Ab.asInt .i64 (cell p5 1)).bind fun n14 =>
 (Ab.asInt .i64 (cell p5 2)).bind fun n15 => some (decide (n14 > n15))).bind
 fun r16 =>
 (bif r16 then some true
 else (Ab.asInt .i64 (cell p5 2)).bind fun n17 => some (decide (n17 > n4))).bind
 fun r18 =>
 (bif r18 then some true
 else
 (bif decide (n1 > 0) then
 (Ab.asInt .i64 (cell p5 1)).bind fun n19 =>
 (idxP es0 (IntKind.i64.wrap (n1 - 1))).bind fun p20 =>
 (Ab.asInt .i64 (cell p20 2)).bind fun n21 =>
 some (decide (n19 < n21))
 else some false).bind
 fun r22 => some r22).bind
 fun r23 =>
 if r23 = true then some (PV.int .i64 10) else some (PV.int .i64 0)
def call_one_M : List PV → Option PV
  | [p0, p1, p2, p3, p4] => call_one lpS p0 p1 p2 p3 p4
  | _ => none
def call_Check_L1 : (List PV × Int × Int × Int × Int × Int × Unit) → (List PV × Int × Int × Int × Int × Int × Unit → Option PV) → Option PV := fun s5 rec6 =>
 if decide (s5.2.2.2.2.2.1 < s5.2.2.2.2.1) = true then
 (call_one_M
 [PV.rs 5 s5.1, PV.int .i64 s5.2.2.2.2.2.1, PV.int .i64 s5.2.1,
 PV.int .i64 s5.2.2.1, PV.int .i64 s5.2.2.2.1]).bind
 fun r7 =>
 (Ab.asInt .i64 r7).bind fun n8 =>
 if (n8 != 0) = true then some (PV.tup [PV.int .i64 s5.2.2.2.2.2.1, PV.int .i64 n8])
 else
 rec6
 (s5.1, s5.2.1, s5.2.2.1, s5.2.2.2.1, s5.2.2.2.2.1,
 IntKind.i64.wrap (s5.2.2.2.2.2.1 + 1), ())
else some (PV.tup [PV.int .i64 0, PV.int .i64 0])
def call_Check (L : Lps) (p0 : PV) (p1 : PV) (p2 : PV) (p3 : PV) : Option PV :=
 (asSl 5 p0).bind fun es0 =>
 (Ab.asInt .i64 p1).bind fun n1 =>
 (Ab.asInt .i64 p2).bind fun n2 =>
 (Ab.asInt .i64 p3).bind fun n3 =>
 (bif decide ((↑es0.length : Int) < 2) then some true else some (decide ((↑es0.length : Int) > 32))).bind
 fun r4 =>
 if r4 = true then some (PV.tup [PV.int .i64 0, PV.int .i64 5])
 else L.run call_Check_L1 (es0, n1, n2, n3, (↑es0.length : Int), 0, ())
def call_Check_M : List PV → Option PV
  | [p0, p1, p2, p3] => call_Check lpS p0 p1 p2 p3
  | _ => none
def trip_Check_L1 : (Int × Int × Int × List PV × Int × Int × List (PV × PV) × Unit) → (Int × Int × Int × List PV × Int × Int × List (PV × PV) × Unit → Option PV) → Option PV := fun s4 rec5 =>
 if decide (s4.2.2.2.2.2.1 < s4.2.2.2.2.1) = true then
 (idxP s4.2.2.2.1 s4.2.2.2.2.2.1).bind fun p6 =>
 (asStr (cell p6 0)).bind fun s7 =>
 (ident_Valid_M [PV.str s7]).bind fun r8 =>
 (Ab.asBool r8).bind fun b9 =>
 if (!b9) = true then some (PV.tup [PV.int .i64 s4.2.2.2.2.2.1, PV.int .i64 12])
 else
 (asStr (cell p6 0)).bind fun s10 =>
 (Ab.asBool (mlook (PV.str s10) (PV.bool false) s4.2.2.2.2.2.2.1)).bind fun b11 =>
 if b11 = true then some (PV.tup [PV.int .i64 s4.2.2.2.2.2.1, PV.int .i64 6])
 else
 (Ab.asInt .i64 (cell p6 1)).bind fun n12 =>
 (bif decide (n12 < 0) then some true
 else (Ab.asInt .i64 (cell p6 1)).bind fun n13 => some (decide (n13 ≥ s4.2.1))).bind
 fun r14 =>
 if r14 = true then
 some (PV.tup [PV.int .i64 s4.2.2.2.2.2.1, PV.int .i64 9])
 else
 (Ab.asInt .i64 (cell p6 2)).bind fun n15 =>
 (bif decide (n15 < 0) then some true
 else
 (Ab.asInt .i64 (cell p6 2)).bind fun n16 =>
 some (decide (n16 ≥ s4.2.2.1))).bind
 fun r17 =>
 if r17 = true then
 some (PV.tup [PV.int .i64 s4.2.2.2.2.2.1, PV.int .i64 9])
 else
 (asSl 5 (cell p6 4)).bind fun es18 =>
 (call_Check_M
 [PV.rs 5 es18, PV.int .i64 s4.1, PV.int .i64 0,
 PV.int .i64 172800]).bind
 fun r19 =>
 (asTup 2 r19).bind fun vs20 =>
 (Ab.asInt .i64 (vs20.getD 0 .bad)).bind fun n21 =>
 (Ab.asInt .i64 (vs20.getD 1 .bad)).bind fun n22 =>
 if (n22 != 0) = true then
 some
 (PV.tup
 [PV.int .i64 s4.2.2.2.2.2.1, PV.int .i64 n22])
 else
 (asStr (cell p6 0)).bind fun s23 =>
 rec5
 (s4.1, s4.2.1, s4.2.2.1, s4.2.2.2.1,
 s4.2.2.2.2.1,
 IntKind.i64.wrap (s4.2.2.2.2.2.1 + 1),
 mput (PV.str s23) (PV.bool true) s4.2.2.2.2.2.2.1, ())
else some (PV.tup [PV.int .i64 0, PV.int .i64 0])
def trip_Check (L : Lps) (p0 : PV) (p1 : PV) (p2 : PV) (p3 : PV) : Option PV :=
 (asSl 5 p0).bind fun es0 =>
 (Ab.asInt .i64 p1).bind fun n1 =>
 (Ab.asInt .i64 p2).bind fun n2 =>
 (Ab.asInt .i64 p3).bind fun n3 =>
 if decide ((↑es0.length : Int) > 256) = true then some (PV.tup [PV.int .i64 0, PV.int .i64 5])
 else L.run trip_Check_L1 (n1, n2, n3, es0, (↑es0.length : Int), 0, [], ())
def trip_Check_M : List PV → Option PV
  | [p0, p1, p2, p3] => trip_Check lpS p0 p1 p2 p3
  | _ => none
def timetable_Check_5 (L : Lps) (c0 : PV) (c1 : PV) (c2 : PV) (c3 : PV) (c4 : PV) (c5 : PV) (c6 : PV) (c7 : PV) (c8 : PV) (c9 : PV) (c10 : PV) (c11 : PV) (c12 : PV) (c13 : PV) (c14 : PV) (c15 : PV) : Option
 PV :=
 (asSl 5 c4).bind fun es0 =>
 (Ab.asInt .i64 c13).bind fun n1 =>
 (Ab.asInt .i64 c14).bind fun n2 =>
 (Ab.asInt .i64 c15).bind fun n3 =>
 (trip_Check_M [PV.rs 5 es0, PV.int .i64 n1, PV.int .i64 n2, PV.int .i64 n3]).bind fun r4 =>
 (asTup 2 r4).bind fun vs5 =>
 (Ab.asInt .i64 (vs5.getD 0 .bad)).bind fun n6 =>
 (Ab.asInt .i64 (vs5.getD 1 .bad)).bind fun n7 =>
 some (PV.tup [PV.int .i64 n6, PV.int .i64 n7])
def timetable_Check_5_M : List PV → Option PV
  | [PV.rp [c0, c1, c2, c3, c4, c5, c6, c7, c8, c9, c10, c11, c12], PV.rp [c13], PV.rp [c14], PV.rp [c15]] => timetable_Check_5 lpS c0 c1 c2 c3 c4 c5 c6 c7 c8 c9 c10 c11 c12 c13 c14 c15
  | _ => none
def frequency_count (L : Lps) (p0 : PV) : Option PV :=
 (Ab.asAgg 4 p0).bind fun x0 =>
 (Ab.asInt .i64 (cell p0 0)).bind fun n1 =>
 (Ab.asInt .i64 (cell p0 1)).bind fun n2 =>
 (Ab.asInt .i64 (cell p0 2)).bind fun n3 =>
 (Ab.asInt .i64 (cell p0 3)).bind fun n4 =>
 if n4 = 0 then none
 else
 some
 (PV.int .i64
 (IntKind.i64.wrap
 ((IntKind.i64.wrap (IntKind.i64.wrap (IntKind.i64.wrap (n3 - n2) + n4) - 1)).tdiv n4)))
def frequency_count_M : List PV → Option PV
  | [p0] => frequency_count lpS p0
  | _ => none
def frequency_moved_1 (L : Lps) (p0 : PV) : Option PV :=
 (Ab.asInt .i64 p0).bind fun n0 =>
 (bif decide (n0 < -2305843009213693952) then some true else some (decide (n0 > 2305843009213693952))).bind fun r1 =>
 some (PV.bool r1)
def frequency_moved_1_M : List PV → Option PV
  | [p0] => frequency_moved_1 lpS p0
  | _ => none
def frequency_wide (L : Lps) (p0 : PV) (p1 : PV) (p2 : PV) : Option PV :=
 (Ab.asInt .i64 p0).bind fun n0 =>
 (Ab.asInt .i64 p1).bind fun n1 =>
 (Ab.asInt .i64 p2).bind fun n2 =>
 (bif
 IntKind.i64.wrap
 (IntKind.i64.wrap
 (IntKind.i64.wrap
 (n0.fdiv (2 ^ min (Int.toNat 32) IntKind.i64.bits) -
 n1.fdiv (2 ^ min (Int.toNat 32) IntKind.i64.bits)) +
 n2.fdiv (2 ^ min (Int.toNat 32) IntKind.i64.bits)) +
 (IntKind.i64.wrap
 (IntKind.i64.wrap
 (IntKind.i64.wrap
 (↑(BitVec.ofInt IntKind.i64.bits n0 &&&
 BitVec.ofInt IntKind.i64.bits 4294967295).toNat :
 Int) -
 IntKind.i64.wrap
 (↑(BitVec.ofInt IntKind.i64.bits n1 &&&
 BitVec.ofInt IntKind.i64.bits 4294967295).toNat :
 Int)) +
 IntKind.i64.wrap
 (↑(BitVec.ofInt IntKind.i64.bits n2 &&& BitVec.ofInt IntKind.i64.bits 4294967295).toNat :
 Int))).fdiv
 (2 ^ min (Int.toNat 32) IntKind.i64.bits)) ==
 0 then
 some
 (decide
 (IntKind.i64.wrap
 (↑(BitVec.ofInt IntKind.i64.bits
 (IntKind.i64.wrap
 (IntKind.i64.wrap
 (IntKind.i64.wrap
 (IntKind.i64.wrap
 (n0.fdiv (2 ^ min (Int.toNat 32) IntKind.i64.bits) -
 n1.fdiv (2 ^ min (Int.toNat 32) IntKind.i64.bits)) +
 n2.fdiv (2 ^ min (Int.toNat 32) IntKind.i64.bits)) +
 (IntKind.i64.wrap
 (IntKind.i64.wrap
 (IntKind.i64.wrap
 (↑(BitVec.ofInt IntKind.i64.bits n0 &&&
 BitVec.ofInt IntKind.i64.bits 4294967295).toNat :
 Int) -
 IntKind.i64.wrap
 (↑(BitVec.ofInt IntKind.i64.bits n1 &&&
 BitVec.ofInt IntKind.i64.bits 4294967295).toNat :
 Int)) +
 IntKind.i64.wrap
 (↑(BitVec.ofInt IntKind.i64.bits n2 &&&
 BitVec.ofInt IntKind.i64.bits 4294967295).toNat :
 Int))).fdiv
 (2 ^ min (Int.toNat 32) IntKind.i64.bits)) *
 2 ^ min (Int.toNat 32) IntKind.i64.bits)) |||
 BitVec.ofInt IntKind.i64.bits
 (IntKind.i64.wrap
 (↑(BitVec.ofInt IntKind.i64.bits
 (IntKind.i64.wrap
 (IntKind.i64.wrap
 (IntKind.i64.wrap
 (↑(BitVec.ofInt IntKind.i64.bits n0 &&&
 BitVec.ofInt IntKind.i64.bits 4294967295).toNat :
 Int) -
 IntKind.i64.wrap
 (↑(BitVec.ofInt IntKind.i64.bits n1 &&&
 BitVec.ofInt IntKind.i64.bits 4294967295).toNat :
 Int)) +
 IntKind.i64.wrap
 (↑(BitVec.ofInt IntKind.i64.bits n2 &&&
 BitVec.ofInt IntKind.i64.bits 4294967295).toNat :
 Int))) &&&
 BitVec.ofInt IntKind.i64.bits 4294967295).toNat :
 Int))).toNat :
 Int) ≤
 172800))
 else some false).bind
 fun r3 =>
 some
 (PV.tup
 [PV.int .i64
 (IntKind.i64.wrap
 (↑(BitVec.ofInt IntKind.i64.bits
 (IntKind.i64.wrap
 (IntKind.i64.wrap
 (IntKind.i64.wrap
 (IntKind.i64.wrap
 (n0.fdiv (2 ^ min (Int.toNat 32) IntKind.i64.bits) -
 n1.fdiv (2 ^ min (Int.toNat 32) IntKind.i64.bits)) +
 n2.fdiv (2 ^ min (Int.toNat 32) IntKind.i64.bits)) +
 (IntKind.i64.wrap
 (IntKind.i64.wrap
 (IntKind.i64.wrap
 (↑(BitVec.ofInt IntKind.i64.bits n0 &&&
 BitVec.ofInt IntKind.i64.bits 4294967295).toNat :
 Int) -
 IntKind.i64.wrap
 (↑(BitVec.ofInt IntKind.i64.bits n1 &&&
 BitVec.ofInt IntKind.i64.bits 4294967295).toNat :
 Int)) +
 IntKind.i64.wrap
 (↑(BitVec.ofInt IntKind.i64.bits n2 &&&
 BitVec.ofInt IntKind.i64.bits 4294967295).toNat :
 Int))).fdiv
 (2 ^ min (Int.toNat 32) IntKind.i64.bits)) *
 2 ^ min (Int.toNat 32) IntKind.i64.bits)) |||
 BitVec.ofInt IntKind.i64.bits
 (IntKind.i64.wrap
 (↑(BitVec.ofInt IntKind.i64.bits
 (IntKind.i64.wrap
 (IntKind.i64.wrap
 (IntKind.i64.wrap
 (↑(BitVec.ofInt IntKind.i64.bits n0 &&&
 BitVec.ofInt IntKind.i64.bits 4294967295).toNat :
 Int) -
 IntKind.i64.wrap
 (↑(BitVec.ofInt IntKind.i64.bits n1 &&&
 BitVec.ofInt IntKind.i64.bits 4294967295).toNat :
 Int)) +
 IntKind.i64.wrap
 (↑(BitVec.ofInt IntKind.i64.bits n2 &&&
 BitVec.ofInt IntKind.i64.bits 4294967295).toNat :
 Int))) &&&
 BitVec.ofInt IntKind.i64.bits 4294967295).toNat :
 Int))).toNat :
 Int)),
 PV.bool r3])
def frequency_wide_M : List PV → Option PV
  | [p0, p1, p2] => frequency_wide lpS p0 p1 p2
  | _ => none
def frequency_moved (L : Lps) (p0 : PV) (p1 : PV) (p2 : PV) : Option PV :=
 (Ab.asInt .i64 p0).bind fun n0 =>
 (Ab.asInt .i64 p1).bind fun n1 =>
 (Ab.asInt .i64 p2).bind fun n2 =>
 (frequency_moved_1_M [PV.int .i64 n0]).bind fun r3 =>
 (Ab.asBool r3).bind fun b4 =>
 (bif b4 then some true
 else
 (frequency_moved_1_M [PV.int .i64 n1]).bind fun r5 => (Ab.asBool r5).bind fun b6 => some b6).bind
 fun r7 =>
 (bif r7 then some true
 else
 (frequency_moved_1_M [PV.int .i64 n2]).bind fun r8 =>
 (Ab.asBool r8).bind fun b9 => some b9).bind
 fun r10 =>
 if r10 = true then
 (frequency_wide_M [PV.int .i64 n0, PV.int .i64 n1, PV.int .i64 n2]).bind fun r11 =>
 (asTup 2 r11).bind fun vs12 =>
 (Ab.asInt .i64 (vs12.getD 0 .bad)).bind fun n13 =>
 (Ab.asBool (vs12.getD 1 .bad)).bind fun b14 =>
 some (PV.tup [PV.int .i64 n13, PV.bool b14])
 else
 (bif decide (IntKind.i64.wrap (IntKind.i64.wrap (n0 - n1) + n2) ≥ 0) then
 some (decide (IntKind.i64.wrap (IntKind.i64.wrap (n0 - n1) + n2) ≤ 172800))
 else some false).bind
 fun r15 =>
 some (PV.tup [PV.int .i64 (IntKind.i64.wrap (IntKind.i64.wrap (n0 - n1) + n2)), PV.bool r15])
def frequency_moved_M : List PV → Option PV
  | [p0, p1, p2] => frequency_moved lpS p0 p1 p2
  | _ => none
def frequency_Calls_L1 : (Int × Int × Int × Int × List PV × Unit) → (Int × Int × Int × Int × List PV × Unit → Option PV) → Option PV := fun s9 rec10 =>
 if decide (s9.2.2.2.1 < s9.2.2.1) = true then
 if inRange s9.2.2.2.1 s9.2.2.2.2.1.length then
 s9.2.2.2.2.1[s9.2.2.2.1.toNat]?.bind fun e11 =>
 (Ab.asInt .i64 (cell e11 1)).bind fun n12 =>
 (frequency_moved_M [PV.int .i64 n12, PV.int .i64 s9.2.1, PV.int .i64 s9.1]).bind
 fun r13 =>
 (asTup 2 r13).bind fun vs14 =>
 (Ab.asInt .i64 (vs14.getD 0 .bad)).bind fun n15 =>
 (Ab.asBool (vs14.getD 1 .bad)).bind fun b16 =>
 if inRange s9.2.2.2.1 s9.2.2.2.2.1.length then
 s9.2.2.2.2.1[s9.2.2.2.1.toNat]?.bind fun e17 =>
 if
 inRange s9.2.2.2.1
 (s9.2.2.2.2.1.set s9.2.2.2.1.toNat
 (PV.agg
 (cell e17 0 ::
 PV.int .i64 n15 :: over [] [cell e17 2, cell e17 3, cell e17 4]))).length then
 (s9.2.2.2.2.1.set s9.2.2.2.1.toNat
 (PV.agg
 (cell e17 0 ::
 PV.int .i64 n15 ::
 over [] [cell e17 2, cell e17 3, cell e17 4])))[s9.2.2.2.1.toNat]?.bind
 fun e18 =>
 (Ab.asInt .i64 (cell e18 2)).bind fun n19 =>
 (frequency_moved_M
 [PV.int .i64 n19, PV.int .i64 s9.2.1, PV.int .i64 s9.1]).bind
 fun r20 =>
 (asTup 2 r20).bind fun vs21 =>
 (Ab.asInt .i64 (vs21.getD 0 .bad)).bind fun n22 =>
 (Ab.asBool (vs21.getD 1 .bad)).bind fun b23 =>
 if
 inRange s9.2.2.2.1
 (s9.2.2.2.2.1.set s9.2.2.2.1.toNat
 (PV.agg
 (cell e17 0 ::
 PV.int .i64 n15 ::
 over [] [cell e17 2, cell e17 3, cell e17 4]))).length then
 (s9.2.2.2.2.1.set s9.2.2.2.1.toNat
 (PV.agg
 (cell e17 0 ::
 PV.int .i64 n15 ::
 over []
 [cell e17 2, cell e17 3,
 cell e17 4])))[s9.2.2.2.1.toNat]?.bind
 fun e24 =>
 (bif !b16 then some true else some !b23).bind fun r25 =>
 if r25 = true then some (PV.tup [PV.rs 5 [], PV.int .i64 10])
 else
 rec10
 (s9.1, s9.2.1, s9.2.2.1,
 IntKind.i64.wrap (s9.2.2.2.1 + 1),
 (s9.2.2.2.2.1.set s9.2.2.2.1.toNat
 (PV.agg
 (cell e17 0 ::
 PV.int .i64 n15 ::
 over [] [cell e17 2, cell e17 3, cell e17 4]))).set
 s9.2.2.2.1.toNat
 (PV.agg
 (cell e24 0 ::
 cell e24 1 ::
 PV.int .i64 n22 :: over [] [cell e24 3, cell e24 4])),
 ())
 else none
 else none
 else none
 else none
else some (PV.tup [PV.rs 5 s9.2.2.2.2.1, PV.int .i64 0])
def frequency_Calls (L : Lps) (p0 : PV) (p1 : PV) : Option PV :=
 (Ab.asAgg 5 p0).bind fun x0 =>
 (asStr (cell p0 0)).bind fun s1 =>
 (Ab.asInt .i64 (cell p0 1)).bind fun n2 =>
 (Ab.asInt .i64 (cell p0 2)).bind fun n3 =>
 (Ab.asBool (cell p0 3)).bind fun b4 =>
 (asSl 5 (cell p0 4)).bind fun es5 =>
 (Ab.asInt .i64 p1).bind fun n6 =>
 if ((↑es5.length : Int) == 0) = true then some (PV.tup [PV.rs 5 [], PV.int .i64 16])
 else
 (idxP es5 0).bind fun p7 =>
 (Ab.asInt .i64 (cell p7 2)).bind fun n8 =>
 if
 0 ≤ (↑es5.length : Int) ∧
 (↑es5.length : Int) ≤ (↑es5.length : Int) ∧
 (↑es5.length : Int).toNat * 32 ≤ roomBound ∧ 0 < 32 ∧ 0 < 5 then
 L.run frequency_Calls_L1
 (n6, n8,
 (↑(List.take
 (List.replicate (↑es5.length : Int).toNat
 (PV.agg
 [PV.int .i64 0, PV.int .i64 0, PV.int .i64 0,
 PV.bool false, PV.bool false])).length
 es5 ++
 List.drop es5.length
 (List.replicate (↑es5.length : Int).toNat
 (PV.agg
 [PV.int .i64 0, PV.int .i64 0, PV.int .i64 0,
 PV.bool false, PV.bool false]))).length :
 Int),
 0,
 List.take
 (List.replicate (↑es5.length : Int).toNat
 (PV.agg
 [PV.int .i64 0, PV.int .i64 0, PV.int .i64 0, PV.bool false,
 PV.bool false])).length
 es5 ++
 List.drop es5.length
 (List.replicate (↑es5.length : Int).toNat
 (PV.agg
 [PV.int .i64 0, PV.int .i64 0, PV.int .i64 0, PV.bool false,
 PV.bool false])),
 ())
 else none
def frequency_Calls_M : List PV → Option PV
  | [p0, p1] => frequency_Calls lpS p0 p1
  | _ => none
def frequency_last (L : Lps) (p0 : PV) : Option PV :=
 (Ab.asAgg 4 p0).bind fun x0 =>
 (Ab.asInt .i64 (cell p0 0)).bind fun n1 =>
 (Ab.asInt .i64 (cell p0 1)).bind fun n2 =>
 (Ab.asInt .i64 (cell p0 2)).bind fun n3 =>
 (Ab.asInt .i64 (cell p0 3)).bind fun n4 =>
 (frequency_count_M
 [PV.agg
 [PV.int .i64 n1, PV.int .i64 n2, PV.int .i64 n3, PV.int .i64 n4]]).bind
 fun r5 =>
 (Ab.asInt .i64 r5).bind fun n6 =>
 some (PV.int .i64 (IntKind.i64.wrap (n2 + IntKind.i64.wrap (IntKind.i64.wrap (n6 - 1) * n4))))
def frequency_last_M : List PV → Option PV
  | [p0] => frequency_last lpS p0
  | _ => none
def frequency_fits (L : Lps) (p0 : PV) (p1 : PV) : Option PV :=
 (Ab.asAgg 5 p0).bind fun x0 =>
 (asStr (cell p0 0)).bind fun s1 =>
 (Ab.asInt .i64 (cell p0 1)).bind fun n2 =>
 (Ab.asInt .i64 (cell p0 2)).bind fun n3 =>
 (Ab.asBool (cell p0 3)).bind fun b4 =>
 (asSl 5 (cell p0 4)).bind fun es5 =>
 (Ab.asAgg 4 p1).bind fun x6 =>
 (Ab.asInt .i64 (cell p1 0)).bind fun n7 =>
 (Ab.asInt .i64 (cell p1 1)).bind fun n8 =>
 (Ab.asInt .i64 (cell p1 2)).bind fun n9 =>
 (Ab.asInt .i64 (cell p1 3)).bind fun n10 =>
 if ((↑es5.length : Int) == 0) = true then some (PV.bool true)
 else
 (frequency_Calls_M
 [PV.agg
 [PV.str s1, PV.int .i64 n2, PV.int .i64 n3, PV.bool b4, PV.rs 5 es5],
 PV.int .i64 n8]).bind
 fun r11 =>
 (asTup 2 r11).bind fun vs12 =>
 (asSl 5 (vs12.getD 0 .bad)).bind fun es13 =>
 (Ab.asInt .i64 (vs12.getD 1 .bad)).bind fun n14 =>
 (frequency_last_M
 [PV.agg
 [PV.int .i64 n7, PV.int .i64 n8, PV.int .i64 n9,
 PV.int .i64 n10]]).bind
 fun r15 =>
 (Ab.asInt .i64 r15).bind fun n16 =>
 (frequency_Calls_M
 [PV.agg
 [PV.str s1, PV.int .i64 n2, PV.int .i64 n3, PV.bool b4,
 PV.rs 5 es5],
 PV.int .i64 n16]).bind
 fun r17 =>
 (asTup 2 r17).bind fun vs18 =>
 (asSl 5 (vs18.getD 0 .bad)).bind fun es19 =>
 (Ab.asInt .i64 (vs18.getD 1 .bad)).bind fun n20 =>
 (bif n14 == 0 then some (n20 == 0) else some false).bind fun r21 =>
 some (PV.bool r21)
def frequency_fits_M : List PV → Option PV
  | [p0, p1] => frequency_fits lpS p0 p1
  | _ => none
def frequency_sound (L : Lps) (p0 : PV) : Option PV :=
 (Ab.asAgg 4 p0).bind fun x0 =>
 (Ab.asInt .i64 (cell p0 0)).bind fun n1 =>
 (Ab.asInt .i64 (cell p0 1)).bind fun n2 =>
 (Ab.asInt .i64 (cell p0 2)).bind fun n3 =>
 (Ab.asInt .i64 (cell p0 3)).bind fun n4 =>
 (bif decide (n2 ≥ 0) then some (decide (n2 < n3)) else some false).bind fun r5 =>
 (bif r5 then some (decide (n3 ≤ 172800)) else some false).bind fun r6 =>
 (bif r6 then some (decide (n4 ≥ 1)) else some false).bind fun r7 =>
 (bif r7 then some (decide (n4 ≤ 86400)) else some false).bind fun r8 => some (PV.bool r8)
def frequency_sound_M : List PV → Option PV
  | [p0] => frequency_sound lpS p0
  | _ => none
def frequency_Check_L1 (rec3 : List PV × List PV × List PV × Int × Int × Unit → Option PV) : (List PV × List PV × Int × Int × Bool × List PV × Int × Int × List PV × Int × Int × PV × PV × PV × PV × Unit) → (List PV × List PV × Int × Int × Bool × List PV × Int × Int × List PV × Int × Int × PV × PV × PV × PV × Unit → Option PV) → Option PV := fun s17 rec18 =>
 if decide (s17.2.2.2.2.2.2.2.2.2.2.1 < s17.2.2.2.2.2.2.2.2.2.1) = true then
 (idxP s17.2.2.2.2.2.2.2.2.1 s17.2.2.2.2.2.2.2.2.2.2.1).bind fun p19 =>
 (Ab.asInt .i64 (cell p19 0)).bind fun n20 =>
 (Ab.asInt .i64 s17.2.2.2.2.2.2.2.2.2.2.2.1).bind fun n21 =>
 if (n20 == n21) = true then
 (frequency_count_M [PV.agg [cell p19 0, cell p19 1, cell p19 2, cell p19 3]]).bind fun r22 =>
 (Ab.asInt .i64 r22).bind fun n23 =>
 (bif s17.2.2.2.2.1 then some true
 else
 (Ab.asInt .i64 (cell p19 1)).bind fun n24 =>
 (Ab.asInt .i64 s17.2.2.2.2.2.2.2.2.2.2.2.2.2.1).bind fun n25 =>
 (bif decide (n24 < n25) then
 (Ab.asInt .i64 s17.2.2.2.2.2.2.2.2.2.2.2.2.1).bind
 fun n26 => (Ab.asInt .i64 (cell p19 2)).bind fun n27 => some (decide (n26 < n27))
 else some false).bind
 fun r28 => some r28).bind
 fun r29 =>
 rec18
 (s17.1, s17.2.1, s17.2.2.1, IntKind.i64.wrap (s17.2.2.2.1 + n23), r29,
 s17.2.2.2.2.2.1, s17.2.2.2.2.2.2.1, s17.2.2.2.2.2.2.2.1,
 s17.2.2.2.2.2.2.2.2.1, s17.2.2.2.2.2.2.2.2.2.1,
 IntKind.i64.wrap (s17.2.2.2.2.2.2.2.2.2.2.1 + 1),
 s17.2.2.2.2.2.2.2.2.2.2.2.1,
 s17.2.2.2.2.2.2.2.2.2.2.2.2.1,
 s17.2.2.2.2.2.2.2.2.2.2.2.2.2.1,
 s17.2.2.2.2.2.2.2.2.2.2.2.2.2.2.1, ())
 else
 rec18
 (s17.1, s17.2.1, s17.2.2.1, s17.2.2.2.1, s17.2.2.2.2.1,
 s17.2.2.2.2.2.1, s17.2.2.2.2.2.2.1, s17.2.2.2.2.2.2.2.1,
 s17.2.2.2.2.2.2.2.2.1, s17.2.2.2.2.2.2.2.2.2.1,
 IntKind.i64.wrap (s17.2.2.2.2.2.2.2.2.2.2.1 + 1),
 s17.2.2.2.2.2.2.2.2.2.2.2.1,
 s17.2.2.2.2.2.2.2.2.2.2.2.2.1,
 s17.2.2.2.2.2.2.2.2.2.2.2.2.2.1,
 s17.2.2.2.2.2.2.2.2.2.2.2.2.2.2.1, ())
else
 if decide (s17.2.2.2.1 > 256) = true then
 some (PV.tup [PV.int .i64 s17.2.2.1, PV.int .i64 17])
 else
 if s17.2.2.2.2.1 = true then some (PV.tup [PV.int .i64 s17.2.2.1, PV.int .i64 8])
 else
 rec3
 (s17.1, s17.2.1, s17.2.2.2.2.2.1, s17.2.2.2.2.2.2.1,
 IntKind.i64.wrap (s17.2.2.2.2.2.2.2.1 + 1), ())
def frequency_Check_L2 (L : Lps) : (List PV × List PV × List PV × Int × Int × Unit) → (List PV × List PV × List PV × Int × Int × Unit → Option PV) → Option PV := fun s2 rec3 =>
 if decide (s2.2.2.2.2.1 < s2.2.2.2.1) = true then
 (idxP s2.2.2.1 s2.2.2.2.2.1).bind fun p4 =>
 (Ab.asInt .i64 (cell p4 0)).bind fun n5 =>
 (bif decide (n5 < 0) then some true
 else (Ab.asInt .i64 (cell p4 0)).bind fun n6 => some (decide (n6 ≥ (↑s2.2.1.length : Int)))).bind
 fun r7 =>
 if r7 = true then some (PV.tup [PV.int .i64 s2.2.2.2.2.1, PV.int .i64 9])
 else
 (frequency_sound_M [PV.agg [cell p4 0, cell p4 1, cell p4 2, cell p4 3]]).bind fun r8 =>
 (Ab.asBool r8).bind fun b9 =>
 (bif !b9 then some true
 else
 (Ab.asInt .i64 (cell p4 0)).bind fun n10 =>
 (idxP s2.2.1 n10).bind fun p11 =>
 (frequency_fits_M
 [PV.agg [cell p11 0, cell p11 1, cell p11 2, cell p11 3, cell p11 4],
 PV.agg [cell p4 0, cell p4 1, cell p4 2, cell p4 3]]).bind
 fun r12 => (Ab.asBool r12).bind fun b13 => some !b13).bind
 fun r14 =>
 if r14 = true then some (PV.tup [PV.int .i64 s2.2.2.2.2.1, PV.int .i64 10])
 else
 (frequency_count_M [PV.agg [cell p4 0, cell p4 1, cell p4 2, cell p4 3]]).bind fun r15 =>
 (Ab.asInt .i64 r15).bind fun n16 =>
 if
 (0 : Int) ≤ 0 ∧
 0 ≤ s2.2.2.2.2.1 ∧
 s2.2.2.2.2.1 ≤ (↑s2.1.length : Int) ∧ 4 = 4 ∧ 4 ≠ 0 then
 L.run (frequency_Check_L1 rec3)
 (s2.1, s2.2.1, s2.2.2.2.2.1, n16, false, s2.2.2.1, s2.2.2.2.1,
 s2.2.2.2.2.1,
 List.drop (Int.toNat 0) (List.take s2.2.2.2.2.1.toNat s2.1),
 (↑(List.drop (Int.toNat 0) (List.take s2.2.2.2.2.1.toNat s2.1)).length : Int),
 0, cell p4 0, cell p4 1, cell p4 2, cell p4 3, ())
 else none
else some (PV.tup [PV.int .i64 0, PV.int .i64 0])
def frequency_Check (L : Lps) (p0 : PV) (p1 : PV) : Option PV :=
 (asSl 4 p0).bind fun es0 =>
 (asSl 5 p1).bind fun es1 =>
 if decide ((↑es0.length : Int) > 64) = true then some (PV.tup [PV.int .i64 0, PV.int .i64 5])
 else L.run (frequency_Check_L2 L) (es0, es1, es0, (↑es0.length : Int), 0, ())
def frequency_Check_M : List PV → Option PV
  | [p0, p1] => frequency_Check lpS p0 p1
  | _ => none
def timetable_Check_6 (L : Lps) (c0 : PV) (c1 : PV) (c2 : PV) (c3 : PV) (c4 : PV) (c5 : PV) (c6 : PV) (c7 : PV) (c8 : PV) (c9 : PV) (c10 : PV) (c11 : PV) (c12 : PV) : Option
 PV :=
 (asSl 4 c5).bind fun es0 =>
 (asSl 5 c4).bind fun es1 =>
 (frequency_Check_M [PV.rs 4 es0, PV.rs 5 es1]).bind fun r2 =>
 (asTup 2 r2).bind fun vs3 =>
 (Ab.asInt .i64 (vs3.getD 0 .bad)).bind fun n4 =>
 (Ab.asInt .i64 (vs3.getD 1 .bad)).bind fun n5 =>
 some (PV.tup [PV.int .i64 n4, PV.int .i64 n5])
def timetable_Check_6_M : List PV → Option PV
  | [PV.rp [c0, c1, c2, c3, c4, c5, c6, c7, c8, c9, c10, c11, c12]] => timetable_Check_6 lpS c0 c1 c2 c3 c4 c5 c6 c7 c8 c9 c10 c11 c12
  | _ => none
def through_follows (L : Lps) (p0 : PV) (p1 : PV) : Option PV :=
 (Ab.asAgg 5 p0).bind fun x0 =>
 (asStr (cell p0 0)).bind fun s1 =>
 (Ab.asInt .i64 (cell p0 1)).bind fun n2 =>
 (Ab.asInt .i64 (cell p0 2)).bind fun n3 =>
 (Ab.asBool (cell p0 3)).bind fun b4 =>
 (asSl 5 (cell p0 4)).bind fun es5 =>
 (Ab.asAgg 5 p1).bind fun x6 =>
 (asStr (cell p1 0)).bind fun s7 =>
 (Ab.asInt .i64 (cell p1 1)).bind fun n8 =>
 (Ab.asInt .i64 (cell p1 2)).bind fun n9 =>
 (Ab.asBool (cell p1 3)).bind fun b10 =>
 (asSl 5 (cell p1 4)).bind fun es11 =>
 if (n3 != n9) = true then some (PV.int .i64 15)
 else
 (bif (↑es5.length : Int) == 0 then some true else some ((↑es11.length : Int) == 0)).bind
 fun r12 =>
 if r12 = true then some (PV.int .i64 13)
 else
 (idxP es5 (IntKind.i64.wrap ((↑es5.length : Int) - 1))).bind fun p13 =>
 (idxP es11 0).bind fun p14 =>
 (Ab.asInt .i64 (cell p13 0)).bind fun n15 =>
 (Ab.asInt .i64 (cell p14 0)).bind fun n16 =>
 if (n15 != n16) = true then some (PV.int .i64 13)
 else
 (Ab.asInt .i64 (cell p14 2)).bind fun n17 =>
 (Ab.asInt .i64 (cell p13 1)).bind fun n18 =>
 if decide (n17 < n18) = true then some (PV.int .i64 10)
 else some (PV.int .i64 0)
def through_follows_M : List PV → Option PV
  | [p0, p1] => through_follows lpS p0 p1
  | _ => none
def through_Next_L1 : (Int × List PV × Int × Int × Unit) → (Int × List PV × Int × Int × Unit → Option PV) → Option PV := fun s2 rec3 =>
 if decide (s2.2.2.2.1 < s2.2.2.1) = true then
 (idxP s2.2.1 s2.2.2.2.1).bind fun p4 =>
 (Ab.asInt .i64 (cell p4 0)).bind fun n5 =>
 if (n5 == s2.1) = true then
 (Ab.asInt .i64 (cell p4 1)).bind fun n6 => some (PV.tup [PV.int .i64 n6, PV.bool true])
 else rec3 (s2.1, s2.2.1, s2.2.2.1, IntKind.i64.wrap (s2.2.2.2.1 + 1), ())
else some (PV.tup [PV.int .i64 0, PV.bool false])
def through_Next (L : Lps) (p0 : PV) (p1 : PV) : Option PV :=
 (asSl 2 p0).bind fun es0 =>
 (Ab.asInt .i64 p1).bind fun n1 => L.run through_Next_L1 (n1, es0, (↑es0.length : Int), 0, ())
def through_Next_M : List PV → Option PV
  | [p0, p1] => through_Next lpS p0 p1
  | _ => none
def through_Chain_L1 (L : Lps) : (List PV × List PV × List (PV × PV) × Unit) → (List PV × List PV × List (PV × PV) × Unit → Option PV) → Option PV := fun s2 rec3 =>
 if inRange (IntKind.i64.wrap ((↑s2.2.1.length : Int) - 1)) s2.2.1.length then
 s2.2.1[(IntKind.i64.wrap ((↑s2.2.1.length : Int) - 1)).toNat]?.bind fun e4 =>
 (Ab.asInt .i64 (cell e4 0)).bind fun n5 =>
 (through_Next_M [PV.rs 2 s2.1, PV.int .i64 n5]).bind fun r6 =>
 (asTup 2 r6).bind fun vs7 =>
 (Ab.asInt .i64 (vs7.getD 0 .bad)).bind fun n8 =>
 (Ab.asBool (vs7.getD 1 .bad)).bind fun b9 =>
 (bif !b9 then some true
 else
 (Ab.asBool (mlook (PV.int .i64 n8) (PV.bool false) s2.2.2.1)).bind fun b10 =>
 some b10).bind
 fun r11 =>
 if r11 = true then some (PV.rs 1 s2.2.1)
 else
 if (s2.2.1 ++ [PV.int .i64 n8]).length * 8 ≤ roomBound ∧ 0 < 8 then
 rec3
 (s2.1, s2.2.1 ++ [PV.int .i64 n8],
 mput (PV.int .i64 n8) (PV.bool true) s2.2.2.1, ())
 else none
else none
def through_Chain (L : Lps) (p0 : PV) (p1 : PV) : Option PV :=
 (asSl 2 p0).bind fun es0 =>
 (Ab.asInt .i64 p1).bind fun n1 =>
 L.run (through_Chain_L1 L) (es0, [PV.int .i64 n1], mput (PV.int .i64 n1) (PV.bool true) [], ())
def through_Chain_M : List PV → Option PV
  | [p0, p1] => through_Chain lpS p0 p1
  | _ => none
def through_leads_L1 : (Int × List PV × Int × Int × Unit) → (Int × List PV × Int × Int × Unit → Option PV) → Option PV := fun s5 rec6 =>
 if decide (s5.2.2.2.1 < s5.2.2.1) = true then
 (idxP s5.2.1 s5.2.2.2.1).bind fun p7 =>
 (Ab.asInt .i64 (cell p7 0)).bind fun n8 =>
 if (n8 == s5.1) = true then some (PV.bool true)
 else rec6 (s5.1, s5.2.1, s5.2.2.1, IntKind.i64.wrap (s5.2.2.2.1 + 1), ())
else some (PV.bool false)
def through_leads (L : Lps) (p0 : PV) (p1 : PV) (p2 : PV) : Option PV :=
 (asSl 2 p0).bind fun es0 =>
 (Ab.asInt .i64 p1).bind fun n1 =>
 (Ab.asInt .i64 p2).bind fun n2 =>
 (through_Chain_M [PV.rs 2 es0, PV.int .i64 n1]).bind fun r3 =>
 (asSl 1 r3).bind fun es4 => L.run through_leads_L1 (n2, es4, (↑es4.length : Int), 0, ())
def through_leads_M : List PV → Option PV
  | [p0, p1, p2] => through_leads lpS p0 p1 p2
  | _ => none
def frequency_Repeated_L1 : (Int × List PV × Int × Int × Unit) → (Int × List PV × Int × Int × Unit → Option PV) → Option PV := fun s2 rec3 =>
 if decide (s2.2.2.2.1 < s2.2.2.1) = true then
 (idxP s2.2.1 s2.2.2.2.1).bind fun p4 =>
 (Ab.asInt .i64 (cell p4 0)).bind fun n5 =>
 if (n5 == s2.1) = true then some (PV.bool true)
 else rec3 (s2.1, s2.2.1, s2.2.2.1, IntKind.i64.wrap (s2.2.2.2.1 + 1), ())
else some (PV.bool false)
def frequency_Repeated (L : Lps) (p0 : PV) (p1 : PV) : Option PV :=
 (asSl 4 p0).bind fun es0 =>
 (Ab.asInt .i64 p1).bind fun n1 => L.run frequency_Repeated_L1 (n1, es0, (↑es0.length : Int), 0, ())
def frequency_Repeated_M : List PV → Option PV
  | [p0, p1] => frequency_Repeated lpS p0 p1
  | _ => none
def through_pair_1 (L : Lps) (p0 : PV) (c1 : PV) : Option PV :=
 (Ab.asInt .i64 p0).bind fun n0 =>
 (bif decide (n0 ≥ 0) then (asSl 5 c1).bind fun es1 => some (decide (n0 < (↑es1.length : Int))) else some false).bind
 fun r2 => some (PV.bool r2)
def through_pair_1_M : List PV → Option PV
  | [p0, PV.rp [c1]] => through_pair_1 lpS p0 c1
  | _ => none
def through_pair (L : Lps) (p0 : PV) (p1 : PV) (p2 : PV) (p3 : PV) : Option PV :=
 (Ab.asInt .i64 p0).bind fun n0 =>
 (Ab.asInt .i64 p1).bind fun n1 =>
 (asSl 5 p2).bind fun es2 =>
 (asSl 4 p3).bind fun es3 =>
 (through_pair_1_M [PV.int .i64 n0, PV.rp [PV.rs 5 es2]]).bind fun r4 =>
 (Ab.asBool r4).bind fun b5 =>
 (bif !b5 then some true
 else
 (through_pair_1_M [PV.int .i64 n1, PV.rp [PV.rs 5 es2]]).bind fun r6 =>
 (Ab.asBool r6).bind fun b7 => some !b7).bind
 fun r8 =>
 (bif r8 then some true else some (n0 == n1)).bind fun r9 =>
 if r9 = true then some (PV.tup [PV.int .i64 9, PV.int .i64 0])
 else
 (frequency_Repeated_M [PV.rs 4 es3, PV.int .i64 n0]).bind fun r10 =>
 (Ab.asBool r10).bind fun b11 =>
 (bif b11 then some true
 else
 (frequency_Repeated_M [PV.rs 4 es3, PV.int .i64 n1]).bind fun r12 =>
 (Ab.asBool r12).bind fun b13 => some b13).bind
 fun r14 =>
 if r14 = true then some (PV.tup [PV.int .i64 0, PV.int .i64 17])
 else some (PV.tup [PV.int .i64 0, PV.int .i64 0])
def through_pair_M : List PV → Option PV
  | [p0, p1, p2, p3] => through_pair lpS p0 p1 p2 p3
  | _ => none
def through_Check_L1 (L : Lps) : (List PV × List PV × List PV × List PV × Int × Int × List (PV × PV) × List (PV × PV) × Unit) → (List PV × List PV × List PV × List PV × Int × Int × List (PV × PV) × List (PV × PV) × Unit → Option PV) → Option PV := fun s3 rec4 =>
 if decide (s3.2.2.2.2.2.1 < s3.2.2.2.2.1) = true then
 (idxP s3.2.2.2.1 s3.2.2.2.2.2.1).bind fun p5 =>
 (Ab.asInt .i64 (cell p5 0)).bind fun n6 =>
 (Ab.asInt .i64 (cell p5 1)).bind fun n7 =>
 (through_pair_M [PV.int .i64 n6, PV.int .i64 n7, PV.rs 5 s3.2.1, PV.rs 4 s3.2.2.1]).bind
 fun r8 =>
 (asTup 2 r8).bind fun vs9 =>
 (Ab.asInt .i64 (vs9.getD 0 .bad)).bind fun n10 =>
 (Ab.asInt .i64 (vs9.getD 1 .bad)).bind fun n11 =>
 if (n10 != 0) = true then
 some (PV.tup [PV.int .i64 s3.2.2.2.2.2.1, PV.int .i64 n10])
 else
 if (n11 != 0) = true then
 some (PV.tup [PV.int .i64 s3.2.2.2.2.2.1, PV.int .i64 n11])
 else
 (Ab.asInt .i64 (cell p5 0)).bind fun n12 =>
 (idxP s3.2.1 n12).bind fun p13 =>
 (Ab.asInt .i64 (cell p5 1)).bind fun n14 =>
 (idxP s3.2.1 n14).bind fun p15 =>
 (through_follows_M
 [PV.agg [cell p13 0, cell p13 1, cell p13 2, cell p13 3, cell p13 4],
 PV.agg [cell p15 0, cell p15 1, cell p15 2, cell p15 3, cell p15 4]]).bind
 fun r16 =>
 (Ab.asInt .i64 r16).bind fun n17 =>
 if (n17 != 0) = true then
 some (PV.tup [PV.int .i64 s3.2.2.2.2.2.1, PV.int .i64 n17])
 else
 (Ab.asInt .i64 (cell p5 0)).bind fun n18 =>
 (Ab.asBool
 (mlook (PV.int .i64 n18) (PV.bool false)
 s3.2.2.2.2.2.2.1)).bind
 fun b19 =>
 (bif b19 then some true
 else
 (Ab.asInt .i64 (cell p5 1)).bind fun n20 =>
 (Ab.asBool
 (mlook (PV.int .i64 n20) (PV.bool false)
 s3.2.2.2.2.2.2.2.1)).bind
 fun b21 => some b21).bind
 fun r22 =>
 if r22 = true then
 some
 (PV.tup
 [PV.int .i64 s3.2.2.2.2.2.1, PV.int .i64 6])
 else
 if
 (0 : Int) ≤ 0 ∧
 0 ≤ s3.2.2.2.2.2.1 ∧
 s3.2.2.2.2.2.1 ≤ (↑s3.1.length : Int) ∧
 2 = 2 ∧ 2 ≠ 0 then
 (Ab.asInt .i64 (cell p5 1)).bind fun n23 =>
 (Ab.asInt .i64 (cell p5 0)).bind fun n24 =>
 (through_leads_M
 [PV.rs 2
 (List.drop (Int.toNat 0)
 (List.take s3.2.2.2.2.2.1.toNat s3.1)),
 PV.int .i64 n23, PV.int .i64 n24]).bind
 fun r25 =>
 (Ab.asBool r25).bind fun b26 =>
 if b26 = true then
 some
 (PV.tup
 [PV.int .i64 s3.2.2.2.2.2.1,
 PV.int .i64 19])
 else
 (Ab.asInt .i64 (cell p5 0)).bind fun n27 =>
 (Ab.asInt .i64 (cell p5 1)).bind fun n28 =>
 rec4
 (s3.1, s3.2.1, s3.2.2.1, s3.2.2.2.1,
 s3.2.2.2.2.1,
 IntKind.i64.wrap (s3.2.2.2.2.2.1 + 1),
 mput (PV.int .i64 n27) (PV.bool true)
 s3.2.2.2.2.2.2.1,
 mput (PV.int .i64 n28) (PV.bool true)
 s3.2.2.2.2.2.2.2.1,
 ())
 else none
else some (PV.tup [PV.int .i64 0, PV.int .i64 0])
def through_Check (L : Lps) (p0 : PV) (p1 : PV) (p2 : PV) : Option PV :=
 (asSl 2 p0).bind fun es0 =>
 (asSl 5 p1).bind fun es1 =>
 (asSl 4 p2).bind fun es2 =>
 if decide ((↑es0.length : Int) > 128) = true then some (PV.tup [PV.int .i64 0, PV.int .i64 5])
 else L.run (through_Check_L1 L) (es0, es1, es2, es0, (↑es0.length : Int), 0, [], [], ())
def through_Check_M : List PV → Option PV
  | [p0, p1, p2] => through_Check lpS p0 p1 p2
  | _ => none
def timetable_Check_7 (L : Lps) (c0 : PV) (c1 : PV) (c2 : PV) (c3 : PV) (c4 : PV) (c5 : PV) (c6 : PV) (c7 : PV) (c8 : PV) (c9 : PV) (c10 : PV) (c11 : PV) (c12 : PV) : Option
 PV :=
 (asSl 2 c6).bind fun es0 =>
 (asSl 5 c4).bind fun es1 =>
 (asSl 4 c5).bind fun es2 =>
 (through_Check_M [PV.rs 2 es0, PV.rs 5 es1, PV.rs 4 es2]).bind fun r3 =>
 (asTup 2 r3).bind fun vs4 =>
 (Ab.asInt .i64 (vs4.getD 0 .bad)).bind fun n5 =>
 (Ab.asInt .i64 (vs4.getD 1 .bad)).bind fun n6 =>
 some (PV.tup [PV.int .i64 n5, PV.int .i64 n6])
def timetable_Check_7_M : List PV → Option PV
  | [PV.rp [c0, c1, c2, c3, c4, c5, c6, c7, c8, c9, c10, c11, c12]] => timetable_Check_7 lpS c0 c1 c2 c3 c4 c5 c6 c7 c8 c9 c10 c11 c12
  | _ => none
def through_alighting_L1 : (Int × List PV × Int × Int × Unit) → (Int × List PV × Int × Int × Unit → Option PV) → Option PV := fun s2 rec3 =>
 if decide (s2.2.2.2.1 < s2.2.2.1) = true then
 (idxP s2.2.1 s2.2.2.2.1).bind fun p4 =>
 (bif decide (s2.2.2.2.1 > 0) then (Ab.asInt .i64 (cell p4 0)).bind fun n5 => some (n5 == s2.1)
 else some false).bind
 fun r6 =>
 (bif r6 then (Ab.asBool (cell p4 4)).bind fun b7 => some b7 else some false).bind fun r8 =>
 if r8 = true then some (PV.int .i64 s2.2.2.2.1)
 else rec3 (s2.1, s2.2.1, s2.2.2.1, IntKind.i64.wrap (s2.2.2.2.1 + 1), ())
else some (PV.int .i64 (-1))
def through_alighting (L : Lps) (p0 : PV) (p1 : PV) : Option PV :=
 (asSl 5 p0).bind fun es0 =>
 (Ab.asInt .i64 p1).bind fun n1 => L.run through_alighting_L1 (n1, es0, (↑es0.length : Int), 0, ())
def through_alighting_M : List PV → Option PV
  | [p0, p1] => through_alighting lpS p0 p1
  | _ => none
def through_boarding_L1 : (List PV × Int × List PV × Int × Int × Unit) → (List PV × Int × List PV × Int × Int × Unit → Option PV) → Option PV := fun s2 rec3 =>
 if decide (s2.2.2.2.2.1 < s2.2.2.2.1) = true then
 (idxP s2.2.2.1 s2.2.2.2.2.1).bind fun p4 =>
 (bif decide (IntKind.i64.wrap (s2.2.2.2.2.1 + 1) < (↑s2.1.length : Int)) then
 (Ab.asInt .i64 (cell p4 0)).bind fun n5 => some (n5 == s2.2.1)
 else some false).bind
 fun r6 =>
 (bif r6 then (Ab.asBool (cell p4 3)).bind fun b7 => some b7 else some false).bind fun r8 =>
 if r8 = true then some (PV.int .i64 s2.2.2.2.2.1)
 else
 rec3
 (s2.1, s2.2.1, s2.2.2.1, s2.2.2.2.1, IntKind.i64.wrap (s2.2.2.2.2.1 + 1), ())
else some (PV.int .i64 (-1))
def through_boarding (L : Lps) (p0 : PV) (p1 : PV) : Option PV :=
 (asSl 5 p0).bind fun es0 =>
 (Ab.asInt .i64 p1).bind fun n1 => L.run through_boarding_L1 (es0, n1, es0, (↑es0.length : Int), 0, ())
def through_boarding_M : List PV → Option PV
  | [p0, p1] => through_boarding lpS p0 p1
  | _ => none
def through_Meets (L : Lps) (p0 : PV) (p1 : PV) (p2 : PV) : Option PV :=
 (asSl 5 p0).bind fun es0 =>
 (asSl 5 p1).bind fun es1 =>
 (Ab.asInt .i64 p2).bind fun n2 =>
 (through_alighting_M [PV.rs 5 es0, PV.int .i64 n2]).bind fun r3 =>
 (Ab.asInt .i64 r3).bind fun n4 =>
 (through_boarding_M [PV.rs 5 es1, PV.int .i64 n2]).bind fun r5 =>
 (Ab.asInt .i64 r5).bind fun n6 =>
 (bif decide (n4 < 0) then some true else some (decide (n6 < 0))).bind fun r7 =>
 (bif r7 then some true
 else
 (idxP es1 n6).bind fun p8 =>
 (Ab.asInt .i64 (cell p8 2)).bind fun n9 =>
 (idxP es0 n4).bind fun p10 =>
 (Ab.asInt .i64 (cell p10 1)).bind fun n11 => some (decide (n9 < n11))).bind
 fun r12 =>
 if r12 = true then some (PV.tup [PV.int .i64 0, PV.int .i64 0, PV.bool false])
 else some (PV.tup [PV.int .i64 n4, PV.int .i64 n6, PV.bool true])
def through_Meets_M : List PV → Option PV
  | [p0, p1, p2] => through_Meets lpS p0 p1 p2
  | _ => none
def through_CheckGuarantees_L1 : (List PV × List PV × Int × List PV × Int × Int × List (PV × PV) × Unit) → (List PV × List PV × Int × List PV × Int × Int × List (PV × PV) × Unit → Option PV) → Option PV := fun s4 rec5 =>
 if decide (s4.2.2.2.2.2.1 < s4.2.2.2.2.1) = true then
 (idxP s4.2.2.2.1 s4.2.2.2.2.2.1).bind fun p6 =>
 (Ab.asInt .i64 (cell p6 0)).bind fun n7 =>
 (Ab.asInt .i64 (cell p6 1)).bind fun n8 =>
 (through_pair_M [PV.int .i64 n7, PV.int .i64 n8, PV.rs 5 s4.1, PV.rs 4 s4.2.1]).bind
 fun r9 =>
 (asTup 2 r9).bind fun vs10 =>
 (Ab.asInt .i64 (vs10.getD 0 .bad)).bind fun n11 =>
 (Ab.asInt .i64 (vs10.getD 1 .bad)).bind fun n12 =>
 (bif n11 != 0 then some true
 else (Ab.asInt .i64 (cell p6 2)).bind fun n13 => some (decide (n13 < 0))).bind
 fun r14 =>
 (bif r14 then some true
 else (Ab.asInt .i64 (cell p6 2)).bind fun n15 => some (decide (n15 ≥ s4.2.2.1))).bind
 fun r16 =>
 if r16 = true then
 some (PV.tup [PV.int .i64 s4.2.2.2.2.2.1, PV.int .i64 9])
 else
 if (n12 != 0) = true then
 some (PV.tup [PV.int .i64 s4.2.2.2.2.2.1, PV.int .i64 n12])
 else
 (Ab.asInt .i64 (cell p6 0)).bind fun n17 =>
 (idxP s4.1 n17).bind fun p18 =>
 (asSl 5 (cell p18 4)).bind fun es19 =>
 (Ab.asInt .i64 (cell p6 1)).bind fun n20 =>
 (idxP s4.1 n20).bind fun p21 =>
 (asSl 5 (cell p21 4)).bind fun es22 =>
 (Ab.asInt .i64 (cell p6 2)).bind fun n23 =>
 (through_Meets_M [PV.rs 5 es19, PV.rs 5 es22, PV.int .i64 n23]).bind
 fun r24 =>
 (asTup 3 r24).bind fun vs25 =>
 (Ab.asInt .i64 (vs25.getD 0 .bad)).bind fun n26 =>
 (Ab.asInt .i64 (vs25.getD 1 .bad)).bind fun n27 =>
 (Ab.asBool (vs25.getD 2 .bad)).bind fun b28 =>
 if (!b28) = true then
 some
 (PV.tup
 [PV.int .i64 s4.2.2.2.2.2.1,
 PV.int .i64 19])
 else
 (if
 chk
 (Kd.int IntKind.i64 ::
 [].append
 (Kd.int IntKind.i64 ::
 [].append (Kd.int IntKind.i64 :: [].append [])))
 [cell p6 0, cell p6 1, cell p6 2] =
 true then
 some (PV.agg [cell p6 0, cell p6 1, cell p6 2])
 else none).bind
 fun key29 =>
 (Ab.asBool
 (mlook key29 (PV.bool false)
 s4.2.2.2.2.2.2.1)).bind
 fun b30 =>
 if b30 = true then
 some
 (PV.tup
 [PV.int .i64 s4.2.2.2.2.2.1,
 PV.int .i64 6])
 else
 (if
 chk
 (Kd.int IntKind.i64 ::
 [].append
 (Kd.int IntKind.i64 ::
 [].append
 (Kd.int IntKind.i64 :: [].append [])))
 [cell p6 0, cell p6 1, cell p6 2] =
 true then
 some (PV.agg [cell p6 0, cell p6 1, cell p6 2])
 else none).bind
 fun key31 =>
 rec5
 (s4.1, s4.2.1, s4.2.2.1, s4.2.2.2.1,
 s4.2.2.2.2.1,
 IntKind.i64.wrap (s4.2.2.2.2.2.1 + 1),
 mput key31 (PV.bool true) s4.2.2.2.2.2.2.1,
 ())
else some (PV.tup [PV.int .i64 0, PV.int .i64 0])
def through_CheckGuarantees (L : Lps) (p0 : PV) (p1 : PV) (p2 : PV) (p3 : PV) : Option PV :=
 (asSl 3 p0).bind fun es0 =>
 (asSl 5 p1).bind fun es1 =>
 (asSl 4 p2).bind fun es2 =>
 (Ab.asInt .i64 p3).bind fun n3 =>
 if decide ((↑es0.length : Int) > 128) = true then some (PV.tup [PV.int .i64 0, PV.int .i64 5])
 else L.run through_CheckGuarantees_L1 (es1, es2, n3, es0, (↑es0.length : Int), 0, [], ())
def through_CheckGuarantees_M : List PV → Option PV
  | [p0, p1, p2, p3] => through_CheckGuarantees lpS p0 p1 p2 p3
  | _ => none
def timetable_Check_8 (L : Lps) (c0 : PV) (c1 : PV) (c2 : PV) (c3 : PV) (c4 : PV) (c5 : PV) (c6 : PV) (c7 : PV) (c8 : PV) (c9 : PV) (c10 : PV) (c11 : PV) (c12 : PV) (c13 : PV) : Option
 PV :=
 (asSl 3 c7).bind fun es0 =>
 (asSl 5 c4).bind fun es1 =>
 (asSl 4 c5).bind fun es2 =>
 (Ab.asInt .i64 c13).bind fun n3 =>
 (through_CheckGuarantees_M [PV.rs 3 es0, PV.rs 5 es1, PV.rs 4 es2, PV.int .i64 n3]).bind fun r4 =>
 (asTup 2 r4).bind fun vs5 =>
 (Ab.asInt .i64 (vs5.getD 0 .bad)).bind fun n6 =>
 (Ab.asInt .i64 (vs5.getD 1 .bad)).bind fun n7 =>
 some (PV.tup [PV.int .i64 n6, PV.int .i64 n7])
def timetable_Check_8_M : List PV → Option PV
  | [PV.rp [c0, c1, c2, c3, c4, c5, c6, c7, c8, c9, c10, c11, c12], PV.rp [c13]] => timetable_Check_8 lpS c0 c1 c2 c3 c4 c5 c6 c7 c8 c9 c10 c11 c12 c13
  | _ => none
def footpath_sound_L1 : (Int × List PV × Int × Int × List (PV × PV) × Unit) → (Int × List PV × Int × Int × List (PV × PV) × Unit → Option PV) → Option PV := fun s2 rec3 =>
 if decide (s2.2.2.2.1 < s2.2.2.1) = true then
 (idxP s2.2.1 s2.2.2.2.1).bind fun p4 =>
 (Ab.asInt .i64 (cell p4 0)).bind fun n5 =>
 (Ab.asInt .i64 (cell p4 1)).bind fun n6 =>
 (Ab.asBool (cell p4 3)).bind fun b7 =>
 (Ab.asInt .i64 (cell p4 0)).bind fun n8 =>
 if decide (n8 < 0) = true then some (PV.tup [PV.int .i64 s2.2.2.2.1, PV.int .i64 9])
 else
 (Ab.asInt .i64 (cell p4 0)).bind fun n9 =>
 if decide (n9 ≥ s2.1) = true then
 some (PV.tup [PV.int .i64 s2.2.2.2.1, PV.int .i64 9])
 else
 (Ab.asInt .i64 (cell p4 1)).bind fun n10 =>
 if decide (n10 < 0) = true then
 some (PV.tup [PV.int .i64 s2.2.2.2.1, PV.int .i64 9])
 else
 (Ab.asInt .i64 (cell p4 1)).bind fun n11 =>
 if decide (n11 ≥ s2.1) = true then
 some (PV.tup [PV.int .i64 s2.2.2.2.1, PV.int .i64 9])
 else
 (Ab.asInt .i64 (cell p4 0)).bind fun n12 =>
 (Ab.asInt .i64 (cell p4 1)).bind fun n13 =>
 if (n12 == n13) = true then
 some (PV.tup [PV.int .i64 s2.2.2.2.1, PV.int .i64 9])
 else
 (Ab.asInt .i64 (cell p4 2)).bind fun n14 =>
 if decide (n14 < 1) = true then
 some (PV.tup [PV.int .i64 s2.2.2.2.1, PV.int .i64 2])
 else
 (Ab.asInt .i64 (cell p4 2)).bind fun n15 =>
 if decide (n15 > 14400) = true then
 some (PV.tup [PV.int .i64 s2.2.2.2.1, PV.int .i64 2])
 else
 (Ab.asBool
 (mlook (PV.agg [PV.int .i64 n5, PV.int .i64 n6, PV.bool b7])
 (PV.bool false) s2.2.2.2.2.1)).bind
 fun b16 =>
 if b16 = true then
 some (PV.tup [PV.int .i64 s2.2.2.2.1, PV.int .i64 6])
 else
 rec3
 (s2.1, s2.2.1, s2.2.2.1,
 IntKind.i64.wrap (s2.2.2.2.1 + 1),
 mput (PV.agg [PV.int .i64 n5, PV.int .i64 n6, PV.bool b7])
 (PV.bool true) s2.2.2.2.2.1,
 ())
else some (PV.tup [PV.int .i64 0, PV.int .i64 0])
def footpath_sound (L : Lps) (p0 : PV) (p1 : PV) : Option PV :=
 (asSl 4 p0).bind fun es0 =>
 (Ab.asInt .i64 p1).bind fun n1 => L.run footpath_sound_L1 (n1, es0, (↑es0.length : Int), 0, [], ())
def footpath_sound_M : List PV → Option PV
  | [p0, p1] => footpath_sound lpS p0 p1
  | _ => none
def footpath_Check (L : Lps) (p0 : PV) (p1 : PV) : Option PV :=
 (asSl 4 p0).bind fun es0 =>
 (Ab.asInt .i64 p1).bind fun n1 =>
 if decide ((↑es0.length : Int) > 512) = true then some (PV.tup [PV.int .i64 0, PV.int .i64 5])
 else
 (footpath_sound_M [PV.rs 4 es0, PV.int .i64 n1]).bind fun r2 =>
 (asTup 2 r2).bind fun vs3 =>
 (Ab.asInt .i64 (vs3.getD 0 .bad)).bind fun n4 =>
 (Ab.asInt .i64 (vs3.getD 1 .bad)).bind fun n5 =>
 some (PV.tup [PV.int .i64 n4, PV.int .i64 n5])
def footpath_Check_M : List PV → Option PV
  | [p0, p1] => footpath_Check lpS p0 p1
  | _ => none
def timetable_Check_9 (L : Lps) (c0 : PV) (c1 : PV) (c2 : PV) (c3 : PV) (c4 : PV) (c5 : PV) (c6 : PV) (c7 : PV) (c8 : PV) (c9 : PV) (c10 : PV) (c11 : PV) (c12 : PV) (c13 : PV) : Option
 PV :=
 (asSl 4 c8).bind fun es0 =>
 (Ab.asInt .i64 c13).bind fun n1 =>
 (footpath_Check_M [PV.rs 4 es0, PV.int .i64 n1]).bind fun r2 =>
 (asTup 2 r2).bind fun vs3 =>
 (Ab.asInt .i64 (vs3.getD 0 .bad)).bind fun n4 =>
 (Ab.asInt .i64 (vs3.getD 1 .bad)).bind fun n5 =>
 some (PV.tup [PV.int .i64 n4, PV.int .i64 n5])
def timetable_Check_9_M : List PV → Option PV
  | [PV.rp [c0, c1, c2, c3, c4, c5, c6, c7, c8, c9, c10, c11, c12], PV.rp [c13]] => timetable_Check_9 lpS c0 c1 c2 c3 c4 c5 c6 c7 c8 c9 c10 c11 c12 c13
  | _ => none
def timetable_Check (L : Lps) (p0 : PV) : Option PV :=
 (Ab.asAgg 13 p0).bind fun x0 =>
 (asSl 4 (cell p0 0)).bind fun es1 =>
 (asSl 3 (cell p0 1)).bind fun es2 =>
 (asSl 10 (cell p0 2)).bind fun es3 =>
 (asSl 3 (cell p0 3)).bind fun es4 =>
 (asSl 5 (cell p0 4)).bind fun es5 =>
 (asSl 4 (cell p0 5)).bind fun es6 =>
 (asSl 2 (cell p0 6)).bind fun es7 =>
 (asSl 3 (cell p0 7)).bind fun es8 =>
 (asSl 4 (cell p0 8)).bind fun es9 =>
 (asSl 6 (cell p0 9)).bind fun es10 =>
 (Ab.asInt .i64 (cell p0 10)).bind fun n11 =>
 (Ab.asInt .i64 (cell p0 11)).bind fun n12 =>
 (Ab.asInt .i64 (cell p0 12)).bind fun n13 =>
 (timetable_Check_1_M
 [PV.rp
 [PV.rs 4 es1, PV.rs 3 es2, PV.rs 10 es3, PV.rs 3 es4, PV.rs 5 es5, PV.rs 4 es6,
 PV.rs 2 es7, PV.rs 3 es8, PV.rs 4 es9, PV.rs 6 es10, PV.int .i64 n11,
 PV.int .i64 n12, PV.int .i64 n13]]).bind
 fun r14 =>
 (asTup 2 r14).bind fun vs15 =>
 (Ab.asInt .i64 (vs15.getD 0 .bad)).bind fun n16 =>
 (Ab.asInt .i64 (vs15.getD 1 .bad)).bind fun n17 =>
 if (n17 != 0) = true then
 some
 (PV.tup [PV.int .i64 0, PV.int .i64 n16, PV.int .i64 n17])
 else
 (timetable_Check_2_M
 [PV.rp
 [PV.rs 4 es1, PV.rs 3 es2, PV.rs 10 es3, PV.rs 3 es4, PV.rs 5 es5,
 PV.rs 4 es6, PV.rs 2 es7, PV.rs 3 es8, PV.rs 4 es9, PV.rs 6 es10,
 PV.int .i64 n11, PV.int .i64 n12,
 PV.int .i64 n13]]).bind
 fun r18 =>
 (asTup 2 r18).bind fun vs19 =>
 (Ab.asInt .i64 (vs19.getD 0 .bad)).bind fun n20 =>
 (Ab.asInt .i64 (vs19.getD 1 .bad)).bind fun n21 =>
 if (n21 != 0) = true then
 some
 (PV.tup
 [PV.int .i64 (IntKind.i64.wrap (0 + 1)),
 PV.int .i64 n20, PV.int .i64 n21])
 else
 (timetable_Check_3_M
 [PV.rp
 [PV.rs 4 es1, PV.rs 3 es2, PV.rs 10 es3, PV.rs 3 es4,
 PV.rs 5 es5, PV.rs 4 es6, PV.rs 2 es7, PV.rs 3 es8,
 PV.rs 4 es9, PV.rs 6 es10, PV.int .i64 n11,
 PV.int .i64 n12, PV.int .i64 n13]]).bind
 fun r22 =>
 (asTup 2 r22).bind fun vs23 =>
 (Ab.asInt .i64 (vs23.getD 0 .bad)).bind fun n24 =>
 (Ab.asInt .i64 (vs23.getD 1 .bad)).bind fun n25 =>
 if (n25 != 0) = true then
 some
 (PV.tup
 [PV.int .i64
 (IntKind.i64.wrap (IntKind.i64.wrap (0 + 1) + 1)),
 PV.int .i64 n24, PV.int .i64 n25])
 else
 (timetable_Check_4_M
 [PV.rp
 [PV.rs 4 es1, PV.rs 3 es2, PV.rs 10 es3,
 PV.rs 3 es4, PV.rs 5 es5, PV.rs 4 es6,
 PV.rs 2 es7, PV.rs 3 es8, PV.rs 4 es9,
 PV.rs 6 es10, PV.int .i64 n11,
 PV.int .i64 n12, PV.int .i64 n13],
 PV.rp [PV.int .i64 (↑es3.length : Int)]]).bind
 fun r26 =>
 (asTup 2 r26).bind fun vs27 =>
 (Ab.asInt .i64 (vs27.getD 0 .bad)).bind
 fun n28 =>
 (Ab.asInt .i64 (vs27.getD 1 .bad)).bind
 fun n29 =>
 if (n29 != 0) = true then
 some
 (PV.tup
 [PV.int .i64
 (IntKind.i64.wrap
 (IntKind.i64.wrap
 (IntKind.i64.wrap (0 + 1) + 1) +
 1)),
 PV.int .i64 n28,
 PV.int .i64 n29])
 else
 (timetable_Check_5_M
 [PV.rp
 [PV.rs 4 es1, PV.rs 3 es2, PV.rs 10 es3,
 PV.rs 3 es4, PV.rs 5 es5, PV.rs 4 es6,
 PV.rs 2 es7, PV.rs 3 es8, PV.rs 4 es9,
 PV.rs 6 es10, PV.int .i64 n11,
 PV.int .i64 n12,
 PV.int .i64 n13],
 PV.rp
 [PV.int .i64 (↑es1.length : Int)],
 PV.rp
 [PV.int .i64 (↑es2.length : Int)],
 PV.rp
 [PV.int .i64
 (↑es3.length : Int)]]).bind
 fun r30 =>
 (asTup 2 r30).bind fun vs31 =>
 (Ab.asInt .i64 (vs31.getD 0 .bad)).bind
 fun n32 =>
 (Ab.asInt .i64
 (vs31.getD 1 .bad)).bind
 fun n33 =>
 if (n33 != 0) = true then
 some
 (PV.tup
 [PV.int .i64
 (IntKind.i64.wrap
 (IntKind.i64.wrap
 (IntKind.i64.wrap
 (IntKind.i64.wrap
 (0 + 1) +
 1) +
 1) +
 1)),
 PV.int .i64 n32,
 PV.int .i64 n33])
 else
 (timetable_Check_6_M
 [PV.rp
 [PV.rs 4 es1, PV.rs 3 es2,
 PV.rs 10 es3, PV.rs 3 es4,
 PV.rs 5 es5, PV.rs 4 es6,
 PV.rs 2 es7, PV.rs 3 es8,
 PV.rs 4 es9, PV.rs 6 es10,
 PV.int .i64 n11,
 PV.int .i64 n12,
 PV.int .i64 n13]]).bind
 fun r34 =>
 (asTup 2 r34).bind fun vs35 =>
 (Ab.asInt .i64
 (vs35.getD 0 .bad)).bind
 fun n36 =>
 (Ab.asInt .i64
 (vs35.getD 1 .bad)).bind
 fun n37 =>
 if (n37 != 0) = true then
 some
 (PV.tup
 [PV.int .i64
 (IntKind.i64.wrap
 (IntKind.i64.wrap
 (IntKind.i64.wrap
 (IntKind.i64.wrap
 (IntKind.i64.wrap
 (0 +
 1) +
 1) +
 1) +
 1) +
 1)),
 PV.int .i64 n36,
 PV.int .i64 n37])
 else
 (timetable_Check_7_M
 [PV.rp
 [PV.rs 4 es1,
 PV.rs 3 es2,
 PV.rs 10 es3,
 PV.rs 3 es4,
 PV.rs 5 es5,
 PV.rs 4 es6,
 PV.rs 2 es7,
 PV.rs 3 es8,
 PV.rs 4 es9,
 PV.rs 6 es10,
 PV.int .i64
 n11,
 PV.int .i64
 n12,
 PV.int .i64
 n13]]).bind
 fun r38 =>
 (asTup 2 r38).bind fun vs39 =>
 (Ab.asInt .i64
 (vs39.getD 0
 .bad)).bind
 fun n40 =>
 (Ab.asInt .i64
 (vs39.getD 1
 .bad)).bind
 fun n41 =>
 if
 (n41 != 0) =
 true then
 some
 (PV.tup
 [PV.int
 IntKind.i64
 (IntKind.i64.wrap
 (IntKind.i64.wrap
 (IntKind.i64.wrap
 (IntKind.i64.wrap
 (IntKind.i64.wrap
 (IntKind.i64.wrap
 (0 +
 1) +
 1) +
 1) +
 1) +
 1) +
 1)),
 PV.int
 IntKind.i64
 n40,
 PV.int
 IntKind.i64
 n41])
 else
 (timetable_Check_8_M
 [PV.rp
 [PV.rs 4
 es1,
 PV.rs 3
 es2,
 PV.rs 10
 es3,
 PV.rs 3
 es4,
 PV.rs 5
 es5,
 PV.rs 4
 es6,
 PV.rs 2
 es7,
 PV.rs 3
 es8,
 PV.rs 4
 es9,
 PV.rs 6
 es10,
 PV.int
 IntKind.i64
 n11,
 PV.int
 IntKind.i64
 n12,
 PV.int
 IntKind.i64
 n13],
 PV.rp
 [PV.int
 IntKind.i64
 (↑es1.length :
 Int)]]).bind
 fun r42 =>
 (asTup 2 r42).bind
 fun vs43 =>
 (Ab.asInt
 IntKind.i64
 (vs43.getD 0
 .bad)).bind
 fun n44 =>
 (Ab.asInt
 IntKind.i64
 (vs43.getD
 1
 .bad)).bind
 fun n45 =>
 if
 (n45 !=
 0) =
 true then
 some
 (PV.tup
 [PV.int
 IntKind.i64
 (IntKind.i64.wrap
 (IntKind.i64.wrap
 (IntKind.i64.wrap
 (IntKind.i64.wrap
 (IntKind.i64.wrap
 (IntKind.i64.wrap
 (IntKind.i64.wrap
 (0 +
 1) +
 1) +
 1) +
 1) +
 1) +
 1) +
 1)),
 PV.int
 IntKind.i64
 n44,
 PV.int
 IntKind.i64
 n45])
 else
 (timetable_Check_9_M
 [PV.rp
 [PV.rs
 4
 es1,
 PV.rs
 3
 es2,
 PV.rs
 10
 es3,
 PV.rs
 3
 es4,
 PV.rs
 5
 es5,
 PV.rs
 4
 es6,
 PV.rs
 2
 es7,
 PV.rs
 3
 es8,
 PV.rs
 4
 es9,
 PV.rs
 6
 es10,
 PV.int
 IntKind.i64
 n11,
 PV.int
 IntKind.i64
 n12,
 PV.int
 IntKind.i64
 n13],
 PV.rp
 [PV.int
 IntKind.i64
 (↑es1.length :
 Int)]]).bind
 fun r46 =>
 (asTup 2
 r46).bind
 fun
 vs47 =>
 (Ab.asInt
 IntKind.i64
 (vs47.getD
 0
 .bad)).bind
 fun
 n48 =>
 (Ab.asInt
 IntKind.i64
 (vs47.getD
 1
 .bad)).bind
 fun
 n49 =>
 if
 (n49 !=
 0) =
 true then
 some
 (PV.tup
 [PV.int
 IntKind.i64
 (IntKind.i64.wrap
 (IntKind.i64.wrap
 (IntKind.i64.wrap
 (IntKind.i64.wrap
 (IntKind.i64.wrap
 (IntKind.i64.wrap
 (IntKind.i64.wrap
 (IntKind.i64.wrap
 (0 +
 1) +
 1) +
 1) +
 1) +
 1) +
 1) +
 1) +
 1)),
 PV.int
 IntKind.i64
 n48,
 PV.int
 IntKind.i64
 n49])
 else
 (timetable_Check_10_M
 [PV.rp
 [PV.rs
 4
 es1,
 PV.rs
 3
 es2,
 PV.rs
 10
 es3,
 PV.rs
 3
 es4,
 PV.rs
 5
 es5,
 PV.rs
 4
 es6,
 PV.rs
 2
 es7,
 PV.rs
 3
 es8,
 PV.rs
 4
 es9,
 PV.rs
 6
 es10,
 PV.int
 IntKind.i64
 n11,
 PV.int
 IntKind.i64
 n12,
 PV.int
 IntKind.i64
 n13]]).bind
 fun
 r50 =>
 (asTup
 2
 r50).bind
 fun
 vs51 =>
 (Ab.asInt
 IntKind.i64
 (vs51.getD
 0
 .bad)).bind
 fun
 n52 =>
 (Ab.asInt
 IntKind.i64
 (vs51.getD
 1
 .bad)).bind
 fun
 n53 =>
 if
 (n53 !=
 0) =
 true then
 some
 (PV.tup
 [PV.int
 IntKind.i64
 (IntKind.i64.wrap
 (IntKind.i64.wrap
 (IntKind.i64.wrap
 (IntKind.i64.wrap
 (IntKind.i64.wrap
 (IntKind.i64.wrap
 (IntKind.i64.wrap
 (IntKind.i64.wrap
 (IntKind.i64.wrap
 (0 +
 1) +
 1) +
 1) +
 1) +
 1) +
 1) +
 1) +
 1) +
 1)),
 PV.int
 IntKind.i64
 n52,
 PV.int
 IntKind.i64
 n53])
 else
 some
 (PV.tup
 [PV.int
 IntKind.i64
 0,
 PV.int
 IntKind.i64
 0,
 PV.int
 IntKind.i64
 0])
def timetable_Check_M : List PV → Option PV
  | [p0] => timetable_Check lpS p0
  | _ => none
def trip_SamePattern_L1 : (Int × Int × Bytes × Int × Int × Bool × List PV × Bytes × Int × Int × Bool × List PV × Unit) → (Int × Int × Bytes × Int × Int × Bool × List PV × Bytes × Int × Int × Bool × List PV × Unit → Option PV) → Option PV := fun s12 rec13 =>
 if decide (s12.2.1 < s12.1) = true then
 (idxP s12.2.2.2.2.2.2.1 s12.2.1).bind fun p14 =>
 (idxP s12.2.2.2.2.2.2.2.2.2.2.2.1 s12.2.1).bind fun p15 =>
 (Ab.asInt .i64 (cell p14 0)).bind fun n16 =>
 (Ab.asInt .i64 (cell p15 0)).bind fun n17 =>
 (bif n16 != n17 then some true
 else
 (Ab.asBool (cell p14 3)).bind fun b18 => (Ab.asBool (cell p15 3)).bind fun b19 => some !b18 == b19).bind
 fun r20 =>
 (bif r20 then some true
 else
 (Ab.asBool (cell p14 4)).bind fun b21 =>
 (Ab.asBool (cell p15 4)).bind fun b22 => some !b21 == b22).bind
 fun r23 =>
 if r23 = true then some (PV.bool false)
 else
 rec13
 (s12.1, IntKind.i64.wrap (s12.2.1 + 1), s12.2.2.1, s12.2.2.2.1,
 s12.2.2.2.2.1, s12.2.2.2.2.2.1, s12.2.2.2.2.2.2.1,
 s12.2.2.2.2.2.2.2.1, s12.2.2.2.2.2.2.2.2.1,
 s12.2.2.2.2.2.2.2.2.2.1, s12.2.2.2.2.2.2.2.2.2.2.1,
 s12.2.2.2.2.2.2.2.2.2.2.2.1, ())
else some (PV.bool true)
def trip_SamePattern (L : Lps) (p0 : PV) (p1 : PV) : Option PV :=
 (Ab.asAgg 5 p0).bind fun x0 =>
 (asStr (cell p0 0)).bind fun s1 =>
 (Ab.asInt .i64 (cell p0 1)).bind fun n2 =>
 (Ab.asInt .i64 (cell p0 2)).bind fun n3 =>
 (Ab.asBool (cell p0 3)).bind fun b4 =>
 (asSl 5 (cell p0 4)).bind fun es5 =>
 (Ab.asAgg 5 p1).bind fun x6 =>
 (asStr (cell p1 0)).bind fun s7 =>
 (Ab.asInt .i64 (cell p1 1)).bind fun n8 =>
 (Ab.asInt .i64 (cell p1 2)).bind fun n9 =>
 (Ab.asBool (cell p1 3)).bind fun b10 =>
 (asSl 5 (cell p1 4)).bind fun es11 =>
 if ((↑es5.length : Int) != (↑es11.length : Int)) = true then some (PV.bool false)
 else
 L.run trip_SamePattern_L1
 ((↑es5.length : Int), 0, s1, n2, n3, b4, es5, s7, n8, n9, b10, es11, ())
def trip_SamePattern_M : List PV → Option PV
  | [p0, p1] => trip_SamePattern lpS p0 p1
  | _ => none
def trip_Overtakes_L1 : (Bool × Int × Int × Bytes × Int × Int × Bool × List PV × Bytes × Int × Int × Bool × List PV × Unit) → (Bool × Int × Int × Bytes × Int × Int × Bool × List PV × Bytes × Int × Int × Bool × List PV × Unit → Option PV) → Option PV := fun s14 rec15 =>
 if decide (s14.2.2.1 < s14.2.1) = true then
 (idxP s14.2.2.2.2.2.2.2.1 s14.2.2.1).bind fun p16 =>
 (idxP s14.2.2.2.2.2.2.2.2.2.2.2.2.1 s14.2.2.1).bind fun p17 =>
 (Ab.asInt .i64 (cell p16 1)).bind fun n18 =>
 (Ab.asInt .i64 (cell p17 1)).bind fun n19 =>
 (Ab.asInt .i64 (cell p16 2)).bind fun n20 =>
 (Ab.asInt .i64 (cell p17 2)).bind fun n21 =>
 (bif s14.1 then some (decide (n18 < n19)) else some false).bind fun r22 =>
 if r22 = true then some (PV.bool true)
 else
 (bif s14.1 then some true else some (decide (n18 > n19))).bind fun r23 =>
 (bif r23 then some (decide (n20 < n21)) else some false).bind fun r24 =>
 if r24 = true then some (PV.bool true)
 else
 (bif r23 then some true else some (decide (n20 > n21))).bind fun r25 =>
 rec15
 (r25, s14.2.1, IntKind.i64.wrap (s14.2.2.1 + 1), s14.2.2.2.1,
 s14.2.2.2.2.1, s14.2.2.2.2.2.1, s14.2.2.2.2.2.2.1,
 s14.2.2.2.2.2.2.2.1, s14.2.2.2.2.2.2.2.2.1,
 s14.2.2.2.2.2.2.2.2.2.1,
 s14.2.2.2.2.2.2.2.2.2.2.1,
 s14.2.2.2.2.2.2.2.2.2.2.2.1,
 s14.2.2.2.2.2.2.2.2.2.2.2.2.1, ())
else some (PV.bool false)
def trip_Overtakes (L : Lps) (p0 : PV) (p1 : PV) : Option PV :=
 (Ab.asAgg 5 p0).bind fun x0 =>
 (asStr (cell p0 0)).bind fun s1 =>
 (Ab.asInt .i64 (cell p0 1)).bind fun n2 =>
 (Ab.asInt .i64 (cell p0 2)).bind fun n3 =>
 (Ab.asBool (cell p0 3)).bind fun b4 =>
 (asSl 5 (cell p0 4)).bind fun es5 =>
 (Ab.asAgg 5 p1).bind fun x6 =>
 (asStr (cell p1 0)).bind fun s7 =>
 (Ab.asInt .i64 (cell p1 1)).bind fun n8 =>
 (Ab.asInt .i64 (cell p1 2)).bind fun n9 =>
 (Ab.asBool (cell p1 3)).bind fun b10 =>
 (asSl 5 (cell p1 4)).bind fun es11 =>
 (trip_SamePattern_M
 [PV.agg
 [PV.str s1, PV.int .i64 n2, PV.int .i64 n3, PV.bool b4, PV.rs 5 es5],
 PV.agg
 [PV.str s7, PV.int .i64 n8, PV.int .i64 n9, PV.bool b10,
 PV.rs 5 es11]]).bind
 fun r12 =>
 (Ab.asBool r12).bind fun b13 =>
 if (!b13) = true then some (PV.bool false)
 else
 L.run trip_Overtakes_L1
 (false, (↑es5.length : Int), 0, s1, n2, n3, b4, es5, s7, n8, n9, b10, es11, ())
def trip_Overtakes_M : List PV → Option PV
  | [p0, p1] => trip_Overtakes lpS p0 p1
  | _ => none
end Go.Ab
