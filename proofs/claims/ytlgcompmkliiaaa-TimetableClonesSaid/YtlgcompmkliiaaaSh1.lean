/- Functions of the program as plain Lean functions, printed by a program of the author. -/
import Derived.Test.YtlgcompmkliiaaaAbSeat
set_option linter.unusedVariables false
namespace Go.Ab
def ident_Valid_L1 : (Bytes × Int × Unit) → (Bytes × Int × Unit → Option PV) → Option PV := fun s1 rec2 =>
 if decide (s1.snd.fst < (↑(List.length s1.fst) : Int)) = true then
 (idxB s1.fst s1.snd.fst).bind fun b3 =>
 (bif decide (97 ≤ (↑b3.toNat : Int)) then some (decide ((↑b3.toNat : Int) ≤ 122)) else some false).bind fun r4 =>
 if r4 = true then rec2 (s1.fst, IntKind.i64.wrap (s1.snd.fst + 1), ())
 else
 (bif decide (65 ≤ (↑b3.toNat : Int)) then some (decide ((↑b3.toNat : Int) ≤ 90)) else some false).bind fun r5 =>
 if r5 = true then rec2 (s1.fst, IntKind.i64.wrap (s1.snd.fst + 1), ())
 else
 (bif decide (48 ≤ (↑b3.toNat : Int)) then some (decide ((↑b3.toNat : Int) ≤ 57)) else some false).bind
 fun r6 =>
 if r6 = true then rec2 (s1.fst, IntKind.i64.wrap (s1.snd.fst + 1), ())
 else
 if ((↑b3.toNat : Int) == 45) = true then rec2 (s1.fst, IntKind.i64.wrap (s1.snd.fst + 1), ())
 else
 if ((↑b3.toNat : Int) == 95) = true then rec2 (s1.fst, IntKind.i64.wrap (s1.snd.fst + 1), ())
 else
 if ((↑b3.toNat : Int) == 46) = true then rec2 (s1.fst, IntKind.i64.wrap (s1.snd.fst + 1), ())
 else some (PV.bool false)
else
 (bif decide ((↑(List.length s1.fst) : Int) > 0) then some (decide ((↑(List.length s1.fst) : Int) ≤ 32))
 else some false).bind
 fun r7 => some (PV.bool r7)
def ident_Valid (L : Lps) (p0 : PV) : Option PV :=
 (asStr p0).bind fun s0 => L.run ident_Valid_L1 (s0, 0, ())
def ident_Valid_M : List PV → Option PV
  | [p0] => ident_Valid lpS p0
  | _ => none
def stop_Check_L1 : (List PV × Int × Int × List (PV × PV) × Unit) → (List PV × Int × Int × List (PV × PV) × Unit → Option PV) → Option PV := fun s1 rec2 =>
 if decide (s1.snd.snd.fst < s1.snd.fst) = true then
 (idxP s1.fst s1.snd.snd.fst).bind fun p3 =>
 (asStr (cell p3 0)).bind fun s4 =>
 (ident_Valid_M [PV.str s4]).bind fun r5 =>
 (Ab.asBool r5).bind fun b6 =>
 if (!b6) = true then some (PV.tup [PV.int IntKind.i64 s1.snd.snd.fst, PV.int IntKind.i64 12])
 else
 (asStr (cell p3 0)).bind fun s7 =>
 (Ab.asBool (mlook (PV.str s7) (PV.bool false) s1.snd.snd.snd.fst)).bind fun b8 =>
 if b8 = true then some (PV.tup [PV.int IntKind.i64 s1.snd.snd.fst, PV.int IntKind.i64 6])
 else
 (Ab.asInt IntKind.i64 (cell p3 1)).bind fun n9 =>
 (bif decide (n9 < 0) then some true
 else (Ab.asInt IntKind.i64 (cell p3 1)).bind fun n10 => some (decide (n10 ≥ 16))).bind
 fun r11 =>
 (bif r11 then some true
 else (Ab.asInt IntKind.i64 (cell p3 3)).bind fun n12 => some (decide (n12 < 0))).bind
 fun r13 =>
 (bif r13 then some true
 else (Ab.asInt IntKind.i64 (cell p3 3)).bind fun n14 => some (decide (n14 > 3600))).bind
 fun r15 =>
 if r15 = true then some (PV.tup [PV.int IntKind.i64 s1.snd.snd.fst, PV.int IntKind.i64 2])
 else
 (asStr (cell p3 0)).bind fun s16 =>
 rec2
 (s1.fst, s1.snd.fst, IntKind.i64.wrap (s1.snd.snd.fst + 1),
 mput (PV.str s16) (PV.bool true) s1.snd.snd.snd.fst, ())
else some (PV.tup [PV.int IntKind.i64 0, PV.int IntKind.i64 0])
def stop_Check (L : Lps) (p0 : PV) : Option PV :=
 (asSl 4 p0).bind fun es0 =>
 if decide ((↑es0.length : Int) > 64) = true then some (PV.tup [PV.int IntKind.i64 0, PV.int IntKind.i64 5])
 else L.run stop_Check_L1 (es0, (↑es0.length : Int), 0, [], ())
def stop_Check_M : List PV → Option PV
  | [p0] => stop_Check lpS p0
  | _ => none
def timetable_Check_1 (L : Lps) (c0 : PV) (c1 : PV) (c2 : PV) (c3 : PV) (c4 : PV) (c5 : PV) (c6 : PV) (c7 : PV) (c8 : PV) (c9 : PV) (c10 : PV) (c11 : PV) (c12 : PV) : Option
 PV :=
 (asSl 4 c0).bind fun es0 =>
 (stop_Check_M [PV.rs 4 es0]).bind fun r1 =>
 (asTup 2 r1).bind fun vs2 =>
 (Ab.asInt IntKind.i64 (vs2.getD 0 PV.bad)).bind fun n3 =>
 (Ab.asInt IntKind.i64 (vs2.getD 1 PV.bad)).bind fun n4 =>
 some (PV.tup [PV.int IntKind.i64 n3, PV.int IntKind.i64 n4])
def timetable_Check_1_M : List PV → Option PV
  | [PV.rp [c0, c1, c2, c3, c4, c5, c6, c7, c8, c9, c10, c11, c12]] => timetable_Check_1 lpS c0 c1 c2 c3 c4 c5 c6 c7 c8 c9 c10 c11 c12
  | _ => none
def product_within (L : Lps) (p0 : PV) (p1 : PV) (p2 : PV) : Option PV :=
 (Ab.asInt IntKind.i64 p0).bind fun n0 =>
 (Ab.asInt IntKind.i64 p1).bind fun n1 =>
 (Ab.asInt IntKind.i64 p2).bind fun n2 =>
 (bif decide (n0 ≥ n1) then some (decide (n0 ≤ n2)) else some false).bind fun r3 => some (PV.bool r3)
def product_within_M : List PV → Option PV
  | [p0, p1, p2] => product_within lpS p0 p1 p2
  | _ => none
def product_Check_L1 : (List PV × Int × Int × List (PV × PV) × Unit) → (List PV × Int × Int × List (PV × PV) × Unit → Option PV) → Option PV := fun s13 rec14 =>
 if decide (s13.snd.snd.fst < s13.snd.fst) = true then
 (idxP s13.fst s13.snd.snd.fst).bind fun p15 =>
 (asStr (cell p15 0)).bind fun s16 =>
 (ident_Valid_M [PV.str s16]).bind fun r17 =>
 (Ab.asBool r17).bind fun b18 =>
 if (!b18) = true then some (PV.tup [PV.int IntKind.i64 s13.snd.snd.fst, PV.int IntKind.i64 12])
 else
 (asStr (cell p15 0)).bind fun s19 =>
 (Ab.asBool (mlook (PV.str s19) (PV.bool false) s13.snd.snd.snd.fst)).bind fun b20 =>
 if b20 = true then some (PV.tup [PV.int IntKind.i64 s13.snd.snd.fst, PV.int IntKind.i64 6])
 else
 (Ab.asInt IntKind.i64 (cell p15 1)).bind fun n21 =>
 (product_within_M [PV.int IntKind.i64 n21, PV.int IntKind.i64 0, PV.int IntKind.i64 1000000]).bind
 fun r22 =>
 (Ab.asBool r22).bind fun b23 =>
 (bif !b23 then some true
 else
 (Ab.asInt IntKind.i64 (cell p15 2)).bind fun n24 =>
 (product_within_M
 [PV.int IntKind.i64 n24, PV.int IntKind.i64 1, PV.int IntKind.i64 8]).bind
 fun r25 => (Ab.asBool r25).bind fun b26 => some !b26).bind
 fun r27 =>
 (bif r27 then some true
 else
 (Ab.asInt IntKind.i64 (cell p15 3)).bind fun n28 =>
 (product_within_M
 [PV.int IntKind.i64 n28, PV.int IntKind.i64 1, PV.int IntKind.i64 16]).bind
 fun r29 => (Ab.asBool r29).bind fun b30 => some !b30).bind
 fun r31 =>
 (bif r31 then some true
 else
 (Ab.asInt IntKind.i64 (cell p15 4)).bind fun n32 =>
 (product_within_M
 [PV.int IntKind.i64 n32, PV.int IntKind.i64 0, PV.int IntKind.i64 86400]).bind
 fun r33 => (Ab.asBool r33).bind fun b34 => some !b34).bind
 fun r35 =>
 (bif r35 then some true
 else
 (Ab.asInt IntKind.i64 (cell p15 5)).bind fun n36 =>
 (product_within_M
 [PV.int IntKind.i64 n36, PV.int IntKind.i64 1, PV.int IntKind.i64 255]).bind
 fun r37 => (Ab.asBool r37).bind fun b38 => some !b38).bind
 fun r39 =>
 if r39 = true then
 some (PV.tup [PV.int IntKind.i64 s13.snd.snd.fst, PV.int IntKind.i64 2])
 else
 (asStr (cell p15 0)).bind fun s40 =>
 rec14
 (s13.fst, s13.snd.fst, IntKind.i64.wrap (s13.snd.snd.fst + 1),
 mput (PV.str s40) (PV.bool true) s13.snd.snd.snd.fst, ())
else some (PV.tup [PV.int IntKind.i64 0, PV.int IntKind.i64 0])
def product_Check (L : Lps) (p0 : PV) : Option PV :=
 (Ab.asAgg 4 p0).bind fun x0 =>
 (asSl 6 (cell p0 0)).bind fun es1 =>
 (Ab.asInt IntKind.i64 (cell p0 1)).bind fun n2 =>
 (Ab.asInt IntKind.i64 (cell p0 2)).bind fun n3 =>
 (Ab.asInt IntKind.i64 (cell p0 3)).bind fun n4 =>
 (product_within_M [PV.int IntKind.i64 n2, PV.int IntKind.i64 0, PV.int IntKind.i64 1000000]).bind fun r5 =>
 (Ab.asBool r5).bind fun b6 =>
 (bif !b6 then some true
 else
 (product_within_M [PV.int IntKind.i64 n3, PV.int IntKind.i64 0, PV.int IntKind.i64 86400]).bind
 fun r7 => (Ab.asBool r7).bind fun b8 => some !b8).bind
 fun r9 =>
 (bif r9 then some true
 else
 (product_within_M [PV.int IntKind.i64 n4, PV.int IntKind.i64 0, PV.int IntKind.i64 1000000]).bind
 fun r10 => (Ab.asBool r10).bind fun b11 => some !b11).bind
 fun r12 =>
 if r12 = true then some (PV.tup [PV.int IntKind.i64 (-1), PV.int IntKind.i64 2])
 else
 if decide ((↑es1.length : Int) > 16) = true then
 some (PV.tup [PV.int IntKind.i64 0, PV.int IntKind.i64 5])
 else L.run product_Check_L1 (es1, (↑es1.length : Int), 0, [], ())
def product_Check_M : List PV → Option PV
  | [p0] => product_Check lpS p0
  | _ => none
def timetable_Check_10 (L : Lps) (c0 : PV) (c1 : PV) (c2 : PV) (c3 : PV) (c4 : PV) (c5 : PV) (c6 : PV) (c7 : PV) (c8 : PV) (c9 : PV) (c10 : PV) (c11 : PV) (c12 : PV) : Option
 PV :=
 (product_Check_M [PV.agg [c9, c10, c11, c12]]).bind fun r0 =>
 (asTup 2 r0).bind fun vs1 =>
 (Ab.asInt IntKind.i64 (vs1.getD 0 PV.bad)).bind fun n2 =>
 (Ab.asInt IntKind.i64 (vs1.getD 1 PV.bad)).bind fun n3 =>
 some (PV.tup [PV.int IntKind.i64 n2, PV.int IntKind.i64 n3])
def timetable_Check_10_M : List PV → Option PV
  | [PV.rp [c0, c1, c2, c3, c4, c5, c6, c7, c8, c9, c10, c11, c12]] => timetable_Check_10 lpS c0 c1 c2 c3 c4 c5 c6 c7 c8 c9 c10 c11 c12
  | _ => none
def route_known (L : Lps) (p0 : PV) : Option PV :=
 (Ab.asInt IntKind.i64 p0).bind fun n0 =>
 (bif decide (n0 ≥ 0) then some (decide (n0 < 8)) else some false).bind fun r1 => some (PV.bool r1)
def route_known_M : List PV → Option PV
  | [p0] => route_known lpS p0
  | _ => none
def route_Check_L1 : (List PV × Int × Int × List (PV × PV) × Unit) → (List PV × Int × Int × List (PV × PV) × Unit → Option PV) → Option PV := fun s1 rec2 =>
 if decide (s1.snd.snd.fst < s1.snd.fst) = true then
 (idxP s1.fst s1.snd.snd.fst).bind fun p3 =>
 (asStr (cell p3 0)).bind fun s4 =>
 (ident_Valid_M [PV.str s4]).bind fun r5 =>
 (Ab.asBool r5).bind fun b6 =>
 if (!b6) = true then some (PV.tup [PV.int IntKind.i64 s1.snd.snd.fst, PV.int IntKind.i64 12])
 else
 (asStr (cell p3 0)).bind fun s7 =>
 (Ab.asBool (mlook (PV.str s7) (PV.bool false) s1.snd.snd.snd.fst)).bind fun b8 =>
 if b8 = true then some (PV.tup [PV.int IntKind.i64 s1.snd.snd.fst, PV.int IntKind.i64 6])
 else
 (Ab.asInt IntKind.i64 (cell p3 1)).bind fun n9 =>
 (route_known_M [PV.int IntKind.i64 n9]).bind fun r10 =>
 (Ab.asBool r10).bind fun b11 =>
 if (!b11) = true then some (PV.tup [PV.int IntKind.i64 s1.snd.snd.fst, PV.int IntKind.i64 2])
 else
 (asStr (cell p3 0)).bind fun s12 =>
 rec2
 (s1.fst, s1.snd.fst, IntKind.i64.wrap (s1.snd.snd.fst + 1),
 mput (PV.str s12) (PV.bool true) s1.snd.snd.snd.fst, ())
else some (PV.tup [PV.int IntKind.i64 0, PV.int IntKind.i64 0])
def route_Check (L : Lps) (p0 : PV) : Option PV :=
 (asSl 3 p0).bind fun es0 =>
 if decide ((↑es0.length : Int) > 64) = true then some (PV.tup [PV.int IntKind.i64 0, PV.int IntKind.i64 5])
 else L.run route_Check_L1 (es0, (↑es0.length : Int), 0, [], ())
def route_Check_M : List PV → Option PV
  | [p0] => route_Check lpS p0
  | _ => none
def timetable_Check_2 (L : Lps) (c0 : PV) (c1 : PV) (c2 : PV) (c3 : PV) (c4 : PV) (c5 : PV) (c6 : PV) (c7 : PV) (c8 : PV) (c9 : PV) (c10 : PV) (c11 : PV) (c12 : PV) : Option
 PV :=
 (asSl 3 c1).bind fun es0 =>
 (route_Check_M [PV.rs 3 es0]).bind fun r1 =>
 (asTup 2 r1).bind fun vs2 =>
 (Ab.asInt IntKind.i64 (vs2.getD 0 PV.bad)).bind fun n3 =>
 (Ab.asInt IntKind.i64 (vs2.getD 1 PV.bad)).bind fun n4 =>
 some (PV.tup [PV.int IntKind.i64 n3, PV.int IntKind.i64 n4])
def timetable_Check_2_M : List PV → Option PV
  | [PV.rp [c0, c1, c2, c3, c4, c5, c6, c7, c8, c9, c10, c11, c12]] => timetable_Check_2 lpS c0 c1 c2 c3 c4 c5 c6 c7 c8 c9 c10 c11 c12
  | _ => none
def date_Valid (L : Lps) (p0 : PV) : Option PV :=
 (Ab.asInt IntKind.i64 p0).bind fun n0 =>
 (bif decide (0 ≤ n0) then some (decide (n0 ≤ 36524)) else some false).bind fun r1 => some (PV.bool r1)
def date_Valid_M : List PV → Option PV
  | [p0] => date_Valid lpS p0
  | _ => none
def calendar_Check_L1 : (List PV × Int × Int × List (PV × PV) × Unit) → (List PV × Int × Int × List (PV × PV) × Unit → Option PV) → Option PV := fun s1 rec2 =>
 if decide (s1.snd.snd.fst < s1.snd.fst) = true then
 (idxP s1.fst s1.snd.snd.fst).bind fun p3 =>
 (asStr (cell p3 0)).bind fun s4 =>
 (ident_Valid_M [PV.str s4]).bind fun r5 =>
 (Ab.asBool r5).bind fun b6 =>
 if (!b6) = true then some (PV.tup [PV.int IntKind.i64 s1.snd.snd.fst, PV.int IntKind.i64 12])
 else
 (asStr (cell p3 0)).bind fun s7 =>
 (Ab.asBool (mlook (PV.str s7) (PV.bool false) s1.snd.snd.snd.fst)).bind fun b8 =>
 if b8 = true then some (PV.tup [PV.int IntKind.i64 s1.snd.snd.fst, PV.int IntKind.i64 6])
 else
 (Ab.asInt IntKind.i64 (cell p3 8)).bind fun n9 =>
 (date_Valid_M [PV.int IntKind.i64 n9]).bind fun r10 =>
 (Ab.asBool r10).bind fun b11 =>
 if (!b11) = true then some (PV.tup [PV.int IntKind.i64 s1.snd.snd.fst, PV.int IntKind.i64 11])
 else
 (Ab.asInt IntKind.i64 (cell p3 9)).bind fun n12 =>
 (date_Valid_M [PV.int IntKind.i64 n12]).bind fun r13 =>
 (Ab.asBool r13).bind fun b14 =>
 if (!b14) = true then
 some (PV.tup [PV.int IntKind.i64 s1.snd.snd.fst, PV.int IntKind.i64 11])
 else
 (Ab.asInt IntKind.i64 (cell p3 8)).bind fun n15 =>
 (Ab.asInt IntKind.i64 (cell p3 9)).bind fun n16 =>
 if decide (n15 > n16) = true then
 some (PV.tup [PV.int IntKind.i64 s1.snd.snd.fst, PV.int IntKind.i64 11])
 else
 (asStr (cell p3 0)).bind fun s17 =>
 rec2
 (s1.fst, s1.snd.fst, IntKind.i64.wrap (s1.snd.snd.fst + 1),
 mput (PV.str s17) (PV.bool true) s1.snd.snd.snd.fst, ())
else some (PV.tup [PV.int IntKind.i64 0, PV.int IntKind.i64 0])
def calendar_Check (L : Lps) (p0 : PV) : Option PV :=
 (asSl 10 p0).bind fun es0 =>
 if decide ((↑es0.length : Int) > 64) = true then some (PV.tup [PV.int IntKind.i64 0, PV.int IntKind.i64 5])
 else L.run calendar_Check_L1 (es0, (↑es0.length : Int), 0, [], ())
def calendar_Check_M : List PV → Option PV
  | [p0] => calendar_Check lpS p0
  | _ => none
def timetable_Check_3 (L : Lps) (c0 : PV) (c1 : PV) (c2 : PV) (c3 : PV) (c4 : PV) (c5 : PV) (c6 : PV) (c7 : PV) (c8 : PV) (c9 : PV) (c10 : PV) (c11 : PV) (c12 : PV) : Option
 PV :=
 (asSl 10 c2).bind fun es0 =>
 (calendar_Check_M [PV.rs 10 es0]).bind fun r1 =>
 (asTup 2 r1).bind fun vs2 =>
 (Ab.asInt IntKind.i64 (vs2.getD 0 PV.bad)).bind fun n3 =>
 (Ab.asInt IntKind.i64 (vs2.getD 1 PV.bad)).bind fun n4 =>
 some (PV.tup [PV.int IntKind.i64 n3, PV.int IntKind.i64 n4])
def timetable_Check_3_M : List PV → Option PV
  | [PV.rp [c0, c1, c2, c3, c4, c5, c6, c7, c8, c9, c10, c11, c12]] => timetable_Check_3 lpS c0 c1 c2 c3 c4 c5 c6 c7 c8 c9 c10 c11 c12
  | _ => none
def calendar_CheckExceptions_L1 : (Int × List PV × Int × Int × List (PV × PV) × Unit) → (Int × List PV × Int × Int × List (PV × PV) × Unit → Option PV) → Option PV := fun s2 rec3 =>
 if decide (s2.snd.snd.snd.fst < s2.snd.snd.fst) = true then
 (idxP s2.snd.fst s2.snd.snd.snd.fst).bind fun p4 =>
 (Ab.asInt IntKind.i64 (cell p4 0)).bind fun n5 =>
 (Ab.asInt IntKind.i64 (cell p4 1)).bind fun n6 =>
 (Ab.asInt IntKind.i64 (cell p4 0)).bind fun n7 =>
 (bif decide (n7 < 0) then some true
 else (Ab.asInt IntKind.i64 (cell p4 0)).bind fun n8 => some (decide (n8 ≥ s2.fst))).bind
 fun r9 =>
 if r9 = true then some (PV.tup [PV.int IntKind.i64 s2.snd.snd.snd.fst, PV.int IntKind.i64 9])
 else
 (Ab.asInt IntKind.i64 (cell p4 1)).bind fun n10 =>
 (date_Valid_M [PV.int IntKind.i64 n10]).bind fun r11 =>
 (Ab.asBool r11).bind fun b12 =>
 if (!b12) = true then some (PV.tup [PV.int IntKind.i64 s2.snd.snd.snd.fst, PV.int IntKind.i64 11])
 else
 (Ab.asBool
 (mlook (PV.agg [PV.int IntKind.i64 n5, PV.int IntKind.i64 n6]) (PV.bool false)
 s2.snd.snd.snd.snd.fst)).bind
 fun b13 =>
 if b13 = true then some (PV.tup [PV.int IntKind.i64 s2.snd.snd.snd.fst, PV.int IntKind.i64 6])
 else
 rec3
 (s2.fst, s2.snd.fst, s2.snd.snd.fst, IntKind.i64.wrap (s2.snd.snd.snd.fst + 1),
 mput (PV.agg [PV.int IntKind.i64 n5, PV.int IntKind.i64 n6]) (PV.bool true)
 s2.snd.snd.snd.snd.fst,
 ())
else some (PV.tup [PV.int IntKind.i64 0, PV.int IntKind.i64 0])
def calendar_CheckExceptions (L : Lps) (p0 : PV) (p1 : PV) : Option PV :=
 (asSl 3 p0).bind fun es0 =>
 (Ab.asInt IntKind.i64 p1).bind fun n1 =>
 if decide ((↑es0.length : Int) > 256) = true then some (PV.tup [PV.int IntKind.i64 0, PV.int IntKind.i64 5])
 else L.run calendar_CheckExceptions_L1 (n1, es0, (↑es0.length : Int), 0, [], ())
def calendar_CheckExceptions_M : List PV → Option PV
  | [p0, p1] => calendar_CheckExceptions lpS p0 p1
  | _ => none
def timetable_Check_4 (L : Lps) (c0 : PV) (c1 : PV) (c2 : PV) (c3 : PV) (c4 : PV) (c5 : PV) (c6 : PV) (c7 : PV) (c8 : PV) (c9 : PV) (c10 : PV) (c11 : PV) (c12 : PV) (c13 : PV) : Option
 PV :=
 (asSl 3 c3).bind fun es0 =>
 (Ab.asInt IntKind.i64 c13).bind fun n1 =>
 (calendar_CheckExceptions_M [PV.rs 3 es0, PV.int IntKind.i64 n1]).bind fun r2 =>
 (asTup 2 r2).bind fun vs3 =>
 (Ab.asInt IntKind.i64 (vs3.getD 0 PV.bad)).bind fun n4 =>
 (Ab.asInt IntKind.i64 (vs3.getD 1 PV.bad)).bind fun n5 =>
 some (PV.tup [PV.int IntKind.i64 n4, PV.int IntKind.i64 n5])
def timetable_Check_4_M : List PV → Option PV
  | [PV.rp [c0, c1, c2, c3, c4, c5, c6, c7, c8, c9, c10, c11, c12], PV.rp [c13]] => timetable_Check_4 lpS c0 c1 c2 c3 c4 c5 c6 c7 c8 c9 c10 c11 c12 c13
  | _ => none
def call_one (L : Lps) (p0 : PV) (p1 : PV) (p2 : PV) (p3 : PV) (p4 : PV) : Option PV :=
 (asSl 5 p0).bind fun es0 =>
 (Ab.asInt IntKind.i64 p1).bind fun n1 =>
 (Ab.asInt IntKind.i64 p2).bind fun n2 =>
 (Ab.asInt IntKind.i64 p3).bind fun n3 =>
 (Ab.asInt IntKind.i64 p4).bind fun n4 =>
 (idxP es0 n1).bind fun p5 =>
 (Ab.asInt IntKind.i64 (cell p5 0)).bind fun n6 =>
 (bif decide (n6 < 0) then some true
 else (Ab.asInt IntKind.i64 (cell p5 0)).bind fun n7 => some (decide (n7 ≥ n2))).bind
 fun r8 =>
 if r8 = true then some (PV.int IntKind.i64 9)
 else
 (bif decide (n1 > 0) then
 (idxP es0 (IntKind.i64.wrap (n1 - 1))).bind fun p9 =>
 (Ab.asInt IntKind.i64 (cell p9 0)).bind fun n10 =>
 (Ab.asInt IntKind.i64 (cell p5 0)).bind fun n11 => some (n10 == n11)
 else some false).bind
 fun r12 =>
 if r12 = true then some (PV.int IntKind.i64 13)
 else
 (Ab.asInt IntKind.i64 (cell p5 1)).bind fun n13 =>
 (bif decide (n13 < n3) then some true
 else
 (Ab.asInt IntKind.i64 (cell p5 1)).bind fun n14 =>
 (Ab.asInt IntKind.i64 (cell p5 2)).bind fun n15 => some (decide (n14 > n15))).bind
 fun r16 =>
 (bif r16 then some true
 else (Ab.asInt IntKind.i64 (cell p5 2)).bind fun n17 => some (decide (n17 > n4))).bind
 fun r18 =>
 (bif r18 then some true
 else
 (bif decide (n1 > 0) then
 (Ab.asInt IntKind.i64 (cell p5 1)).bind fun n19 =>
 (idxP es0 (IntKind.i64.wrap (n1 - 1))).bind fun p20 =>
 (Ab.asInt IntKind.i64 (cell p20 2)).bind fun n21 =>
 some (decide (n19 < n21))
 else some false).bind
 fun r22 => some r22).bind
 fun r23 =>
 if r23 = true then some (PV.int IntKind.i64 10) else some (PV.int IntKind.i64 0)
def call_one_M : List PV → Option PV
  | [p0, p1, p2, p3, p4] => call_one lpS p0 p1 p2 p3 p4
  | _ => none
def call_Check_L1 : (List PV × Int × Int × Int × Int × Int × Unit) → (List PV × Int × Int × Int × Int × Int × Unit → Option PV) → Option PV := fun s5 rec6 =>
 if decide (s5.snd.snd.snd.snd.snd.fst < s5.snd.snd.snd.snd.fst) = true then
 (call_one_M
 [PV.rs 5 s5.fst, PV.int IntKind.i64 s5.snd.snd.snd.snd.snd.fst, PV.int IntKind.i64 s5.snd.fst,
 PV.int IntKind.i64 s5.snd.snd.fst, PV.int IntKind.i64 s5.snd.snd.snd.fst]).bind
 fun r7 =>
 (Ab.asInt IntKind.i64 r7).bind fun n8 =>
 if (n8 != 0) = true then some (PV.tup [PV.int IntKind.i64 s5.snd.snd.snd.snd.snd.fst, PV.int IntKind.i64 n8])
 else
 rec6
 (s5.fst, s5.snd.fst, s5.snd.snd.fst, s5.snd.snd.snd.fst, s5.snd.snd.snd.snd.fst,
 IntKind.i64.wrap (s5.snd.snd.snd.snd.snd.fst + 1), ())
else some (PV.tup [PV.int IntKind.i64 0, PV.int IntKind.i64 0])
def call_Check (L : Lps) (p0 : PV) (p1 : PV) (p2 : PV) (p3 : PV) : Option PV :=
 (asSl 5 p0).bind fun es0 =>
 (Ab.asInt IntKind.i64 p1).bind fun n1 =>
 (Ab.asInt IntKind.i64 p2).bind fun n2 =>
 (Ab.asInt IntKind.i64 p3).bind fun n3 =>
 (bif decide ((↑es0.length : Int) < 2) then some true else some (decide ((↑es0.length : Int) > 32))).bind
 fun r4 =>
 if r4 = true then some (PV.tup [PV.int IntKind.i64 0, PV.int IntKind.i64 5])
 else L.run call_Check_L1 (es0, n1, n2, n3, (↑es0.length : Int), 0, ())
def call_Check_M : List PV → Option PV
  | [p0, p1, p2, p3] => call_Check lpS p0 p1 p2 p3
  | _ => none
def trip_Check_L1 : (Int × Int × Int × List PV × Int × Int × List (PV × PV) × Unit) → (Int × Int × Int × List PV × Int × Int × List (PV × PV) × Unit → Option PV) → Option PV := fun s4 rec5 =>
 if decide (s4.snd.snd.snd.snd.snd.fst < s4.snd.snd.snd.snd.fst) = true then
 (idxP s4.snd.snd.snd.fst s4.snd.snd.snd.snd.snd.fst).bind fun p6 =>
 (asStr (cell p6 0)).bind fun s7 =>
 (ident_Valid_M [PV.str s7]).bind fun r8 =>
 (Ab.asBool r8).bind fun b9 =>
 if (!b9) = true then some (PV.tup [PV.int IntKind.i64 s4.snd.snd.snd.snd.snd.fst, PV.int IntKind.i64 12])
 else
 (asStr (cell p6 0)).bind fun s10 =>
 (Ab.asBool (mlook (PV.str s10) (PV.bool false) s4.snd.snd.snd.snd.snd.snd.fst)).bind fun b11 =>
 if b11 = true then some (PV.tup [PV.int IntKind.i64 s4.snd.snd.snd.snd.snd.fst, PV.int IntKind.i64 6])
 else
 (Ab.asInt IntKind.i64 (cell p6 1)).bind fun n12 =>
 (bif decide (n12 < 0) then some true
 else (Ab.asInt IntKind.i64 (cell p6 1)).bind fun n13 => some (decide (n13 ≥ s4.snd.fst))).bind
 fun r14 =>
 if r14 = true then
 some (PV.tup [PV.int IntKind.i64 s4.snd.snd.snd.snd.snd.fst, PV.int IntKind.i64 9])
 else
 (Ab.asInt IntKind.i64 (cell p6 2)).bind fun n15 =>
 (bif decide (n15 < 0) then some true
 else
 (Ab.asInt IntKind.i64 (cell p6 2)).bind fun n16 =>
 some (decide (n16 ≥ s4.snd.snd.fst))).bind
 fun r17 =>
 if r17 = true then
 some (PV.tup [PV.int IntKind.i64 s4.snd.snd.snd.snd.snd.fst, PV.int IntKind.i64 9])
 else
 (asSl 5 (cell p6 4)).bind fun es18 =>
 (call_Check_M
 [PV.rs 5 es18, PV.int IntKind.i64 s4.fst, PV.int IntKind.i64 0,
 PV.int IntKind.i64 172800]).bind
 fun r19 =>
 (asTup 2 r19).bind fun vs20 =>
 (Ab.asInt IntKind.i64 (vs20.getD 0 PV.bad)).bind fun n21 =>
 (Ab.asInt IntKind.i64 (vs20.getD 1 PV.bad)).bind fun n22 =>
 if (n22 != 0) = true then
 some
 (PV.tup
 [PV.int IntKind.i64 s4.snd.snd.snd.snd.snd.fst, PV.int IntKind.i64 n22])
 else
 (asStr (cell p6 0)).bind fun s23 =>
 rec5
 (s4.fst, s4.snd.fst, s4.snd.snd.fst, s4.snd.snd.snd.fst,
 s4.snd.snd.snd.snd.fst,
 IntKind.i64.wrap (s4.snd.snd.snd.snd.snd.fst + 1),
 mput (PV.str s23) (PV.bool true) s4.snd.snd.snd.snd.snd.snd.fst, ())
else some (PV.tup [PV.int IntKind.i64 0, PV.int IntKind.i64 0])
def trip_Check (L : Lps) (p0 : PV) (p1 : PV) (p2 : PV) (p3 : PV) : Option PV :=
 (asSl 5 p0).bind fun es0 =>
 (Ab.asInt IntKind.i64 p1).bind fun n1 =>
 (Ab.asInt IntKind.i64 p2).bind fun n2 =>
 (Ab.asInt IntKind.i64 p3).bind fun n3 =>
 if decide ((↑es0.length : Int) > 256) = true then some (PV.tup [PV.int IntKind.i64 0, PV.int IntKind.i64 5])
 else L.run trip_Check_L1 (n1, n2, n3, es0, (↑es0.length : Int), 0, [], ())
def trip_Check_M : List PV → Option PV
  | [p0, p1, p2, p3] => trip_Check lpS p0 p1 p2 p3
  | _ => none
def timetable_Check_5 (L : Lps) (c0 : PV) (c1 : PV) (c2 : PV) (c3 : PV) (c4 : PV) (c5 : PV) (c6 : PV) (c7 : PV) (c8 : PV) (c9 : PV) (c10 : PV) (c11 : PV) (c12 : PV) (c13 : PV) (c14 : PV) (c15 : PV) : Option
 PV :=
 (asSl 5 c4).bind fun es0 =>
 (Ab.asInt IntKind.i64 c13).bind fun n1 =>
 (Ab.asInt IntKind.i64 c14).bind fun n2 =>
 (Ab.asInt IntKind.i64 c15).bind fun n3 =>
 (trip_Check_M [PV.rs 5 es0, PV.int IntKind.i64 n1, PV.int IntKind.i64 n2, PV.int IntKind.i64 n3]).bind fun r4 =>
 (asTup 2 r4).bind fun vs5 =>
 (Ab.asInt IntKind.i64 (vs5.getD 0 PV.bad)).bind fun n6 =>
 (Ab.asInt IntKind.i64 (vs5.getD 1 PV.bad)).bind fun n7 =>
 some (PV.tup [PV.int IntKind.i64 n6, PV.int IntKind.i64 n7])
def timetable_Check_5_M : List PV → Option PV
  | [PV.rp [c0, c1, c2, c3, c4, c5, c6, c7, c8, c9, c10, c11, c12], PV.rp [c13], PV.rp [c14], PV.rp [c15]] => timetable_Check_5 lpS c0 c1 c2 c3 c4 c5 c6 c7 c8 c9 c10 c11 c12 c13 c14 c15
  | _ => none
def frequency_count (L : Lps) (p0 : PV) : Option PV :=
 (Ab.asAgg 4 p0).bind fun x0 =>
 (Ab.asInt IntKind.i64 (cell p0 0)).bind fun n1 =>
 (Ab.asInt IntKind.i64 (cell p0 1)).bind fun n2 =>
 (Ab.asInt IntKind.i64 (cell p0 2)).bind fun n3 =>
 (Ab.asInt IntKind.i64 (cell p0 3)).bind fun n4 =>
 if n4 = 0 then none
 else
 some
 (PV.int IntKind.i64
 (IntKind.i64.wrap
 ((IntKind.i64.wrap (IntKind.i64.wrap (IntKind.i64.wrap (n3 - n2) + n4) - 1)).tdiv n4)))
def frequency_count_M : List PV → Option PV
  | [p0] => frequency_count lpS p0
  | _ => none
def frequency_moved_1 (L : Lps) (p0 : PV) : Option PV :=
 (Ab.asInt IntKind.i64 p0).bind fun n0 =>
 (bif decide (n0 < -2305843009213693952) then some true else some (decide (n0 > 2305843009213693952))).bind fun r1 =>
 some (PV.bool r1)
def frequency_moved_1_M : List PV → Option PV
  | [p0] => frequency_moved_1 lpS p0
  | _ => none
def frequency_wide (L : Lps) (p0 : PV) (p1 : PV) (p2 : PV) : Option PV :=
 (Ab.asInt IntKind.i64 p0).bind fun n0 =>
 (Ab.asInt IntKind.i64 p1).bind fun n1 =>
 (Ab.asInt IntKind.i64 p2).bind fun n2 =>
 (bif
 IntKind.i64.wrap
 (IntKind.i64.wrap
 (IntKind.i64.wrap
 (n0.fdiv (2 ^ min (Int.toNat 32) IntKind.i64.bits) -
 n1.fdiv (2 ^ min (Int.toNat 32) IntKind.i64.bits)) +
 n2.fdiv (2 ^ min (Int.toNat 32) IntKind.i64.bits)) +
 (IntKind.i64.wrap
 (IntKind.i64.wrap
 (IntKind.i64.wrap
 (↑(BitVec.ofInt IntKind.i64.bits n0 &&&
 BitVec.ofInt IntKind.i64.bits 4294967295).toNat :
 Int) -
 IntKind.i64.wrap
 (↑(BitVec.ofInt IntKind.i64.bits n1 &&&
 BitVec.ofInt IntKind.i64.bits 4294967295).toNat :
 Int)) +
 IntKind.i64.wrap
 (↑(BitVec.ofInt IntKind.i64.bits n2 &&& BitVec.ofInt IntKind.i64.bits 4294967295).toNat :
 Int))).fdiv
 (2 ^ min (Int.toNat 32) IntKind.i64.bits)) ==
 0 then
 some
 (decide
 (IntKind.i64.wrap
 (↑(BitVec.ofInt IntKind.i64.bits
 (IntKind.i64.wrap
 (IntKind.i64.wrap
 (IntKind.i64.wrap
 (IntKind.i64.wrap
 (n0.fdiv (2 ^ min (Int.toNat 32) IntKind.i64.bits) -
 n1.fdiv (2 ^ min (Int.toNat 32) IntKind.i64.bits)) +
 n2.fdiv (2 ^ min (Int.toNat 32) IntKind.i64.bits)) +
 (IntKind.i64.wrap
 (IntKind.i64.wrap
 (IntKind.i64.wrap
 (↑(BitVec.ofInt IntKind.i64.bits n0 &&&
 BitVec.ofInt IntKind.i64.bits 4294967295).toNat :
 Int) -
 IntKind.i64.wrap
 (↑(BitVec.ofInt IntKind.i64.bits n1 &&&
 BitVec.ofInt IntKind.i64.bits 4294967295).toNat :
 Int)) +
 IntKind.i64.wrap
 (↑(BitVec.ofInt IntKind.i64.bits n2 &&&
 BitVec.ofInt IntKind.i64.bits 4294967295).toNat :
 Int))).fdiv
 (2 ^ min (Int.toNat 32) IntKind.i64.bits)) *
 2 ^ min (Int.toNat 32) IntKind.i64.bits)) |||
 BitVec.ofInt IntKind.i64.bits
 (IntKind.i64.wrap
 (↑(BitVec.ofInt IntKind.i64.bits
 (IntKind.i64.wrap
 (IntKind.i64.wrap
 (IntKind.i64.wrap
 (↑(BitVec.ofInt IntKind.i64.bits n0 &&&
 BitVec.ofInt IntKind.i64.bits 4294967295).toNat :
 Int) -
 IntKind.i64.wrap
 (↑(BitVec.ofInt IntKind.i64.bits n1 &&&
 BitVec.ofInt IntKind.i64.bits 4294967295).toNat :
 Int)) +
 IntKind.i64.wrap
 (↑(BitVec.ofInt IntKind.i64.bits n2 &&&
 BitVec.ofInt IntKind.i64.bits 4294967295).toNat :
 Int))) &&&
 BitVec.ofInt IntKind.i64.bits 4294967295).toNat :
 Int))).toNat :
 Int) ≤
 172800))
 else some false).bind
 fun r3 =>
 some
 (PV.tup
 [PV.int IntKind.i64
 (IntKind.i64.wrap
 (↑(BitVec.ofInt IntKind.i64.bits
 (IntKind.i64.wrap
 (IntKind.i64.wrap
 (IntKind.i64.wrap
 (IntKind.i64.wrap
 (n0.fdiv (2 ^ min (Int.toNat 32) IntKind.i64.bits) -
 n1.fdiv (2 ^ min (Int.toNat 32) IntKind.i64.bits)) +
 n2.fdiv (2 ^ min (Int.toNat 32) IntKind.i64.bits)) +
 (IntKind.i64.wrap
 (IntKind.i64.wrap
 (IntKind.i64.wrap
 (↑(BitVec.ofInt IntKind.i64.bits n0 &&&
 BitVec.ofInt IntKind.i64.bits 4294967295).toNat :
 Int) -
 IntKind.i64.wrap
 (↑(BitVec.ofInt IntKind.i64.bits n1 &&&
 BitVec.ofInt IntKind.i64.bits 4294967295).toNat :
 Int)) +
 IntKind.i64.wrap
 (↑(BitVec.ofInt IntKind.i64.bits n2 &&&
 BitVec.ofInt IntKind.i64.bits 4294967295).toNat :
 Int))).fdiv
 (2 ^ min (Int.toNat 32) IntKind.i64.bits)) *
 2 ^ min (Int.toNat 32) IntKind.i64.bits)) |||
 BitVec.ofInt IntKind.i64.bits
 (IntKind.i64.wrap
 (↑(BitVec.ofInt IntKind.i64.bits
 (IntKind.i64.wrap
 (IntKind.i64.wrap
 (IntKind.i64.wrap
 (↑(BitVec.ofInt IntKind.i64.bits n0 &&&
 BitVec.ofInt IntKind.i64.bits 4294967295).toNat :
 Int) -
 IntKind.i64.wrap
 (↑(BitVec.ofInt IntKind.i64.bits n1 &&&
 BitVec.ofInt IntKind.i64.bits 4294967295).toNat :
 Int)) +
 IntKind.i64.wrap
 (↑(BitVec.ofInt IntKind.i64.bits n2 &&&
 BitVec.ofInt IntKind.i64.bits 4294967295).toNat :
 Int))) &&&
 BitVec.ofInt IntKind.i64.bits 4294967295).toNat :
 Int))).toNat :
 Int)),
 PV.bool r3])
def frequency_wide_M : List PV → Option PV
  | [p0, p1, p2] => frequency_wide lpS p0 p1 p2
  | _ => none
def frequency_moved (L : Lps) (p0 : PV) (p1 : PV) (p2 : PV) : Option PV :=
 (Ab.asInt IntKind.i64 p0).bind fun n0 =>
 (Ab.asInt IntKind.i64 p1).bind fun n1 =>
 (Ab.asInt IntKind.i64 p2).bind fun n2 =>
 (frequency_moved_1_M [PV.int IntKind.i64 n0]).bind fun r3 =>
 (Ab.asBool r3).bind fun b4 =>
 (bif b4 then some true
 else
 (frequency_moved_1_M [PV.int IntKind.i64 n1]).bind fun r5 => (Ab.asBool r5).bind fun b6 => some b6).bind
 fun r7 =>
 (bif r7 then some true
 else
 (frequency_moved_1_M [PV.int IntKind.i64 n2]).bind fun r8 =>
 (Ab.asBool r8).bind fun b9 => some b9).bind
 fun r10 =>
 if r10 = true then
 (frequency_wide_M [PV.int IntKind.i64 n0, PV.int IntKind.i64 n1, PV.int IntKind.i64 n2]).bind fun r11 =>
 (asTup 2 r11).bind fun vs12 =>
 (Ab.asInt IntKind.i64 (vs12.getD 0 PV.bad)).bind fun n13 =>
 (Ab.asBool (vs12.getD 1 PV.bad)).bind fun b14 =>
 some (PV.tup [PV.int IntKind.i64 n13, PV.bool b14])
 else
 (bif decide (IntKind.i64.wrap (IntKind.i64.wrap (n0 - n1) + n2) ≥ 0) then
 some (decide (IntKind.i64.wrap (IntKind.i64.wrap (n0 - n1) + n2) ≤ 172800))
 else some false).bind
 fun r15 =>
 some (PV.tup [PV.int IntKind.i64 (IntKind.i64.wrap (IntKind.i64.wrap (n0 - n1) + n2)), PV.bool r15])
def frequency_moved_M : List PV → Option PV
  | [p0, p1, p2] => frequency_moved lpS p0 p1 p2
  | _ => none
def frequency_Calls_L1 : (Int × Int × Int × Int × List PV × Unit) → (Int × Int × Int × Int × List PV × Unit → Option PV) → Option PV := fun s9 rec10 =>
 if decide (s9.snd.snd.snd.fst < s9.snd.snd.fst) = true then
 if inRange s9.snd.snd.snd.fst s9.snd.snd.snd.snd.fst.length then
 s9.snd.snd.snd.snd.fst[s9.snd.snd.snd.fst.toNat]?.bind fun e11 =>
 (Ab.asInt IntKind.i64 (cell e11 1)).bind fun n12 =>
 (frequency_moved_M [PV.int IntKind.i64 n12, PV.int IntKind.i64 s9.snd.fst, PV.int IntKind.i64 s9.fst]).bind
 fun r13 =>
 (asTup 2 r13).bind fun vs14 =>
 (Ab.asInt IntKind.i64 (vs14.getD 0 PV.bad)).bind fun n15 =>
 (Ab.asBool (vs14.getD 1 PV.bad)).bind fun b16 =>
 if inRange s9.snd.snd.snd.fst s9.snd.snd.snd.snd.fst.length then
 s9.snd.snd.snd.snd.fst[s9.snd.snd.snd.fst.toNat]?.bind fun e17 =>
 if
 inRange s9.snd.snd.snd.fst
 (s9.snd.snd.snd.snd.fst.set s9.snd.snd.snd.fst.toNat
 (PV.agg
 (cell e17 0 ::
 PV.int IntKind.i64 n15 :: over [] [cell e17 2, cell e17 3, cell e17 4]))).length then
 (s9.snd.snd.snd.snd.fst.set s9.snd.snd.snd.fst.toNat
 (PV.agg
 (cell e17 0 ::
 PV.int IntKind.i64 n15 ::
 over [] [cell e17 2, cell e17 3, cell e17 4])))[s9.snd.snd.snd.fst.toNat]?.bind
 fun e18 =>
 (Ab.asInt IntKind.i64 (cell e18 2)).bind fun n19 =>
 (frequency_moved_M
 [PV.int IntKind.i64 n19, PV.int IntKind.i64 s9.snd.fst, PV.int IntKind.i64 s9.fst]).bind
 fun r20 =>
 (asTup 2 r20).bind fun vs21 =>
 (Ab.asInt IntKind.i64 (vs21.getD 0 PV.bad)).bind fun n22 =>
 (Ab.asBool (vs21.getD 1 PV.bad)).bind fun b23 =>
 if
 inRange s9.snd.snd.snd.fst
 (s9.snd.snd.snd.snd.fst.set s9.snd.snd.snd.fst.toNat
 (PV.agg
 (cell e17 0 ::
 PV.int IntKind.i64 n15 ::
 over [] [cell e17 2, cell e17 3, cell e17 4]))).length then
 (s9.snd.snd.snd.snd.fst.set s9.snd.snd.snd.fst.toNat
 (PV.agg
 (cell e17 0 ::
 PV.int IntKind.i64 n15 ::
 over []
 [cell e17 2, cell e17 3,
 cell e17 4])))[s9.snd.snd.snd.fst.toNat]?.bind
 fun e24 =>
 (bif !b16 then some true else some !b23).bind fun r25 =>
 if r25 = true then some (PV.tup [PV.rs 5 [], PV.int IntKind.i64 10])
 else
 rec10
 (s9.fst, s9.snd.fst, s9.snd.snd.fst,
 IntKind.i64.wrap (s9.snd.snd.snd.fst + 1),
 (s9.snd.snd.snd.snd.fst.set s9.snd.snd.snd.fst.toNat
 (PV.agg
 (cell e17 0 ::
 PV.int IntKind.i64 n15 ::
 over [] [cell e17 2, cell e17 3, cell e17 4]))).set
 s9.snd.snd.snd.fst.toNat
 (PV.agg
 (cell e24 0 ::
 cell e24 1 ::
 PV.int IntKind.i64 n22 :: over [] [cell e24 3, cell e24 4])),
 ())
 else none
 else none
 else none
 else none
else some (PV.tup [PV.rs 5 s9.snd.snd.snd.snd.fst, PV.int IntKind.i64 0])
def frequency_Calls (L : Lps) (p0 : PV) (p1 : PV) : Option PV :=
 (Ab.asAgg 5 p0).bind fun x0 =>
 (asStr (cell p0 0)).bind fun s1 =>
 (Ab.asInt IntKind.i64 (cell p0 1)).bind fun n2 =>
 (Ab.asInt IntKind.i64 (cell p0 2)).bind fun n3 =>
 (Ab.asBool (cell p0 3)).bind fun b4 =>
 (asSl 5 (cell p0 4)).bind fun es5 =>
 (Ab.asInt IntKind.i64 p1).bind fun n6 =>
 if ((↑es5.length : Int) == 0) = true then some (PV.tup [PV.rs 5 [], PV.int IntKind.i64 16])
 else
 (idxP es5 0).bind fun p7 =>
 (Ab.asInt IntKind.i64 (cell p7 2)).bind fun n8 =>
 if
 0 ≤ (↑es5.length : Int) ∧
 (↑es5.length : Int) ≤ (↑es5.length : Int) ∧
 (↑es5.length : Int).toNat * 32 ≤ roomBound ∧ 0 < 32 ∧ 0 < 5 then
 L.run frequency_Calls_L1
 (n6, n8,
 (↑(List.take
 (List.replicate (↑es5.length : Int).toNat
 (PV.agg
 [PV.int IntKind.i64 0, PV.int IntKind.i64 0, PV.int IntKind.i64 0,
 PV.bool false, PV.bool false])).length
 es5 ++
 List.drop es5.length
 (List.replicate (↑es5.length : Int).toNat
 (PV.agg
 [PV.int IntKind.i64 0, PV.int IntKind.i64 0, PV.int IntKind.i64 0,
 PV.bool false, PV.bool false]))).length :
 Int),
 0,
 List.take
 (List.replicate (↑es5.length : Int).toNat
 (PV.agg
 [PV.int IntKind.i64 0, PV.int IntKind.i64 0, PV.int IntKind.i64 0, PV.bool false,
 PV.bool false])).length
 es5 ++
 List.drop es5.length
 (List.replicate (↑es5.length : Int).toNat
 (PV.agg
 [PV.int IntKind.i64 0, PV.int IntKind.i64 0, PV.int IntKind.i64 0, PV.bool false,
 PV.bool false])),
 ())
 else none
def frequency_Calls_M : List PV → Option PV
  | [p0, p1] => frequency_Calls lpS p0 p1
  | _ => none
def frequency_last (L : Lps) (p0 : PV) : Option PV :=
 (Ab.asAgg 4 p0).bind fun x0 =>
 (Ab.asInt IntKind.i64 (cell p0 0)).bind fun n1 =>
 (Ab.asInt IntKind.i64 (cell p0 1)).bind fun n2 =>
 (Ab.asInt IntKind.i64 (cell p0 2)).bind fun n3 =>
 (Ab.asInt IntKind.i64 (cell p0 3)).bind fun n4 =>
 (frequency_count_M
 [PV.agg
 [PV.int IntKind.i64 n1, PV.int IntKind.i64 n2, PV.int IntKind.i64 n3, PV.int IntKind.i64 n4]]).bind
 fun r5 =>
 (Ab.asInt IntKind.i64 r5).bind fun n6 =>
 some (PV.int IntKind.i64 (IntKind.i64.wrap (n2 + IntKind.i64.wrap (IntKind.i64.wrap (n6 - 1) * n4))))
def frequency_last_M : List PV → Option PV
  | [p0] => frequency_last lpS p0
  | _ => none
def frequency_fits (L : Lps) (p0 : PV) (p1 : PV) : Option PV :=
 (Ab.asAgg 5 p0).bind fun x0 =>
 (asStr (cell p0 0)).bind fun s1 =>
 (Ab.asInt IntKind.i64 (cell p0 1)).bind fun n2 =>
 (Ab.asInt IntKind.i64 (cell p0 2)).bind fun n3 =>
 (Ab.asBool (cell p0 3)).bind fun b4 =>
 (asSl 5 (cell p0 4)).bind fun es5 =>
 (Ab.asAgg 4 p1).bind fun x6 =>
 (Ab.asInt IntKind.i64 (cell p1 0)).bind fun n7 =>
 (Ab.asInt IntKind.i64 (cell p1 1)).bind fun n8 =>
 (Ab.asInt IntKind.i64 (cell p1 2)).bind fun n9 =>
 (Ab.asInt IntKind.i64 (cell p1 3)).bind fun n10 =>
 if ((↑es5.length : Int) == 0) = true then some (PV.bool true)
 else
 (frequency_Calls_M
 [PV.agg
 [PV.str s1, PV.int IntKind.i64 n2, PV.int IntKind.i64 n3, PV.bool b4, PV.rs 5 es5],
 PV.int IntKind.i64 n8]).bind
 fun r11 =>
 (asTup 2 r11).bind fun vs12 =>
 (asSl 5 (vs12.getD 0 PV.bad)).bind fun es13 =>
 (Ab.asInt IntKind.i64 (vs12.getD 1 PV.bad)).bind fun n14 =>
 (frequency_last_M
 [PV.agg
 [PV.int IntKind.i64 n7, PV.int IntKind.i64 n8, PV.int IntKind.i64 n9,
 PV.int IntKind.i64 n10]]).bind
 fun r15 =>
 (Ab.asInt IntKind.i64 r15).bind fun n16 =>
 (frequency_Calls_M
 [PV.agg
 [PV.str s1, PV.int IntKind.i64 n2, PV.int IntKind.i64 n3, PV.bool b4,
 PV.rs 5 es5],
 PV.int IntKind.i64 n16]).bind
 fun r17 =>
 (asTup 2 r17).bind fun vs18 =>
 (asSl 5 (vs18.getD 0 PV.bad)).bind fun es19 =>
 (Ab.asInt IntKind.i64 (vs18.getD 1 PV.bad)).bind fun n20 =>
 (bif n14 == 0 then some (n20 == 0) else some false).bind fun r21 =>
 some (PV.bool r21)
def frequency_fits_M : List PV → Option PV
  | [p0, p1] => frequency_fits lpS p0 p1
  | _ => none
def frequency_sound (L : Lps) (p0 : PV) : Option PV :=
 (Ab.asAgg 4 p0).bind fun x0 =>
 (Ab.asInt IntKind.i64 (cell p0 0)).bind fun n1 =>
 (Ab.asInt IntKind.i64 (cell p0 1)).bind fun n2 =>
 (Ab.asInt IntKind.i64 (cell p0 2)).bind fun n3 =>
 (Ab.asInt IntKind.i64 (cell p0 3)).bind fun n4 =>
 (bif decide (n2 ≥ 0) then some (decide (n2 < n3)) else some false).bind fun r5 =>
 (bif r5 then some (decide (n3 ≤ 172800)) else some false).bind fun r6 =>
 (bif r6 then some (decide (n4 ≥ 1)) else some false).bind fun r7 =>
 (bif r7 then some (decide (n4 ≤ 86400)) else some false).bind fun r8 => some (PV.bool r8)
def frequency_sound_M : List PV → Option PV
  | [p0] => frequency_sound lpS p0
  | _ => none
def frequency_Check_L1 (rec3 : List PV × List PV × List PV × Int × Int × Unit → Option PV) : (List PV × List PV × Int × Int × Bool × List PV × Int × Int × List PV × Int × Int × PV × PV × PV × PV × Unit) → (List PV × List PV × Int × Int × Bool × List PV × Int × Int × List PV × Int × Int × PV × PV × PV × PV × Unit → Option PV) → Option PV := fun s17 rec18 =>
 if decide (s17.snd.snd.snd.snd.snd.snd.snd.snd.snd.snd.fst < s17.snd.snd.snd.snd.snd.snd.snd.snd.snd.fst) = true then
 (idxP s17.snd.snd.snd.snd.snd.snd.snd.snd.fst s17.snd.snd.snd.snd.snd.snd.snd.snd.snd.snd.fst).bind fun p19 =>
 (Ab.asInt IntKind.i64 (cell p19 0)).bind fun n20 =>
 (Ab.asInt IntKind.i64 s17.snd.snd.snd.snd.snd.snd.snd.snd.snd.snd.snd.fst).bind fun n21 =>
 if (n20 == n21) = true then
 (frequency_count_M [PV.agg [cell p19 0, cell p19 1, cell p19 2, cell p19 3]]).bind fun r22 =>
 (Ab.asInt IntKind.i64 r22).bind fun n23 =>
 (bif s17.snd.snd.snd.snd.fst then some true
 else
 (Ab.asInt IntKind.i64 (cell p19 1)).bind fun n24 =>
 (Ab.asInt IntKind.i64 s17.snd.snd.snd.snd.snd.snd.snd.snd.snd.snd.snd.snd.snd.fst).bind fun n25 =>
 (bif decide (n24 < n25) then
 (Ab.asInt IntKind.i64 s17.snd.snd.snd.snd.snd.snd.snd.snd.snd.snd.snd.snd.fst).bind
 fun n26 => (Ab.asInt IntKind.i64 (cell p19 2)).bind fun n27 => some (decide (n26 < n27))
 else some false).bind
 fun r28 => some r28).bind
 fun r29 =>
 rec18
 (s17.fst, s17.snd.fst, s17.snd.snd.fst, IntKind.i64.wrap (s17.snd.snd.snd.fst + n23), r29,
 s17.snd.snd.snd.snd.snd.fst, s17.snd.snd.snd.snd.snd.snd.fst, s17.snd.snd.snd.snd.snd.snd.snd.fst,
 s17.snd.snd.snd.snd.snd.snd.snd.snd.fst, s17.snd.snd.snd.snd.snd.snd.snd.snd.snd.fst,
 IntKind.i64.wrap (s17.snd.snd.snd.snd.snd.snd.snd.snd.snd.snd.fst + 1),
 s17.snd.snd.snd.snd.snd.snd.snd.snd.snd.snd.snd.fst,
 s17.snd.snd.snd.snd.snd.snd.snd.snd.snd.snd.snd.snd.fst,
 s17.snd.snd.snd.snd.snd.snd.snd.snd.snd.snd.snd.snd.snd.fst,
 s17.snd.snd.snd.snd.snd.snd.snd.snd.snd.snd.snd.snd.snd.snd.fst, ())
 else
 rec18
 (s17.fst, s17.snd.fst, s17.snd.snd.fst, s17.snd.snd.snd.fst, s17.snd.snd.snd.snd.fst,
 s17.snd.snd.snd.snd.snd.fst, s17.snd.snd.snd.snd.snd.snd.fst, s17.snd.snd.snd.snd.snd.snd.snd.fst,
 s17.snd.snd.snd.snd.snd.snd.snd.snd.fst, s17.snd.snd.snd.snd.snd.snd.snd.snd.snd.fst,
 IntKind.i64.wrap (s17.snd.snd.snd.snd.snd.snd.snd.snd.snd.snd.fst + 1),
 s17.snd.snd.snd.snd.snd.snd.snd.snd.snd.snd.snd.fst,
 s17.snd.snd.snd.snd.snd.snd.snd.snd.snd.snd.snd.snd.fst,
 s17.snd.snd.snd.snd.snd.snd.snd.snd.snd.snd.snd.snd.snd.fst,
 s17.snd.snd.snd.snd.snd.snd.snd.snd.snd.snd.snd.snd.snd.snd.fst, ())
else
 if decide (s17.snd.snd.snd.fst > 256) = true then
 some (PV.tup [PV.int IntKind.i64 s17.snd.snd.fst, PV.int IntKind.i64 17])
 else
 if s17.snd.snd.snd.snd.fst = true then some (PV.tup [PV.int IntKind.i64 s17.snd.snd.fst, PV.int IntKind.i64 8])
 else
 rec3
 (s17.fst, s17.snd.fst, s17.snd.snd.snd.snd.snd.fst, s17.snd.snd.snd.snd.snd.snd.fst,
 IntKind.i64.wrap (s17.snd.snd.snd.snd.snd.snd.snd.fst + 1), ())
def frequency_Check_L2 (L : Lps) : (List PV × List PV × List PV × Int × Int × Unit) → (List PV × List PV × List PV × Int × Int × Unit → Option PV) → Option PV := fun s2 rec3 =>
 if decide (s2.snd.snd.snd.snd.fst < s2.snd.snd.snd.fst) = true then
 (idxP s2.snd.snd.fst s2.snd.snd.snd.snd.fst).bind fun p4 =>
 (Ab.asInt IntKind.i64 (cell p4 0)).bind fun n5 =>
 (bif decide (n5 < 0) then some true
 else (Ab.asInt IntKind.i64 (cell p4 0)).bind fun n6 => some (decide (n6 ≥ (↑s2.snd.fst.length : Int)))).bind
 fun r7 =>
 if r7 = true then some (PV.tup [PV.int IntKind.i64 s2.snd.snd.snd.snd.fst, PV.int IntKind.i64 9])
 else
 (frequency_sound_M [PV.agg [cell p4 0, cell p4 1, cell p4 2, cell p4 3]]).bind fun r8 =>
 (Ab.asBool r8).bind fun b9 =>
 (bif !b9 then some true
 else
 (Ab.asInt IntKind.i64 (cell p4 0)).bind fun n10 =>
 (idxP s2.snd.fst n10).bind fun p11 =>
 (frequency_fits_M
 [PV.agg [cell p11 0, cell p11 1, cell p11 2, cell p11 3, cell p11 4],
 PV.agg [cell p4 0, cell p4 1, cell p4 2, cell p4 3]]).bind
 fun r12 => (Ab.asBool r12).bind fun b13 => some !b13).bind
 fun r14 =>
 if r14 = true then some (PV.tup [PV.int IntKind.i64 s2.snd.snd.snd.snd.fst, PV.int IntKind.i64 10])
 else
 (frequency_count_M [PV.agg [cell p4 0, cell p4 1, cell p4 2, cell p4 3]]).bind fun r15 =>
 (Ab.asInt IntKind.i64 r15).bind fun n16 =>
 if
 (0 : Int) ≤ 0 ∧
 0 ≤ s2.snd.snd.snd.snd.fst ∧
 s2.snd.snd.snd.snd.fst ≤ (↑s2.fst.length : Int) ∧ 4 = 4 ∧ 4 ≠ 0 then
 L.run (frequency_Check_L1 rec3)
 (s2.fst, s2.snd.fst, s2.snd.snd.snd.snd.fst, n16, false, s2.snd.snd.fst, s2.snd.snd.snd.fst,
 s2.snd.snd.snd.snd.fst,
 List.drop (Int.toNat 0) (List.take s2.snd.snd.snd.snd.fst.toNat s2.fst),
 (↑(List.drop (Int.toNat 0) (List.take s2.snd.snd.snd.snd.fst.toNat s2.fst)).length : Int),
 0, cell p4 0, cell p4 1, cell p4 2, cell p4 3, ())
 else none
else some (PV.tup [PV.int IntKind.i64 0, PV.int IntKind.i64 0])
def frequency_Check (L : Lps) (p0 : PV) (p1 : PV) : Option PV :=
 (asSl 4 p0).bind fun es0 =>
 (asSl 5 p1).bind fun es1 =>
 if decide ((↑es0.length : Int) > 64) = true then some (PV.tup [PV.int IntKind.i64 0, PV.int IntKind.i64 5])
 else L.run (frequency_Check_L2 L) (es0, es1, es0, (↑es0.length : Int), 0, ())
def frequency_Check_M : List PV → Option PV
  | [p0, p1] => frequency_Check lpS p0 p1
  | _ => none
def timetable_Check_6 (L : Lps) (c0 : PV) (c1 : PV) (c2 : PV) (c3 : PV) (c4 : PV) (c5 : PV) (c6 : PV) (c7 : PV) (c8 : PV) (c9 : PV) (c10 : PV) (c11 : PV) (c12 : PV) : Option
 PV :=
 (asSl 4 c5).bind fun es0 =>
 (asSl 5 c4).bind fun es1 =>
 (frequency_Check_M [PV.rs 4 es0, PV.rs 5 es1]).bind fun r2 =>
 (asTup 2 r2).bind fun vs3 =>
 (Ab.asInt IntKind.i64 (vs3.getD 0 PV.bad)).bind fun n4 =>
 (Ab.asInt IntKind.i64 (vs3.getD 1 PV.bad)).bind fun n5 =>
 some (PV.tup [PV.int IntKind.i64 n4, PV.int IntKind.i64 n5])
def timetable_Check_6_M : List PV → Option PV
  | [PV.rp [c0, c1, c2, c3, c4, c5, c6, c7, c8, c9, c10, c11, c12]] => timetable_Check_6 lpS c0 c1 c2 c3 c4 c5 c6 c7 c8 c9 c10 c11 c12
  | _ => none
def through_follows (L : Lps) (p0 : PV) (p1 : PV) : Option PV :=
 (Ab.asAgg 5 p0).bind fun x0 =>
 (asStr (cell p0 0)).bind fun s1 =>
 (Ab.asInt IntKind.i64 (cell p0 1)).bind fun n2 =>
 (Ab.asInt IntKind.i64 (cell p0 2)).bind fun n3 =>
 (Ab.asBool (cell p0 3)).bind fun b4 =>
 (asSl 5 (cell p0 4)).bind fun es5 =>
 (Ab.asAgg 5 p1).bind fun x6 =>
 (asStr (cell p1 0)).bind fun s7 =>
 (Ab.asInt IntKind.i64 (cell p1 1)).bind fun n8 =>
 (Ab.asInt IntKind.i64 (cell p1 2)).bind fun n9 =>
 (Ab.asBool (cell p1 3)).bind fun b10 =>
 (asSl 5 (cell p1 4)).bind fun es11 =>
 if (n3 != n9) = true then some (PV.int IntKind.i64 15)
 else
 (bif (↑es5.length : Int) == 0 then some true else some ((↑es11.length : Int) == 0)).bind
 fun r12 =>
 if r12 = true then some (PV.int IntKind.i64 13)
 else
 (idxP es5 (IntKind.i64.wrap ((↑es5.length : Int) - 1))).bind fun p13 =>
 (idxP es11 0).bind fun p14 =>
 (Ab.asInt IntKind.i64 (cell p13 0)).bind fun n15 =>
 (Ab.asInt IntKind.i64 (cell p14 0)).bind fun n16 =>
 if (n15 != n16) = true then some (PV.int IntKind.i64 13)
 else
 (Ab.asInt IntKind.i64 (cell p14 2)).bind fun n17 =>
 (Ab.asInt IntKind.i64 (cell p13 1)).bind fun n18 =>
 if decide (n17 < n18) = true then some (PV.int IntKind.i64 10)
 else some (PV.int IntKind.i64 0)
def through_follows_M : List PV → Option PV
  | [p0, p1] => through_follows lpS p0 p1
  | _ => none
def through_Next_L1 : (Int × List PV × Int × Int × Unit) → (Int × List PV × Int × Int × Unit → Option PV) → Option PV := fun s2 rec3 =>
 if decide (s2.snd.snd.snd.fst < s2.snd.snd.fst) = true then
 (idxP s2.snd.fst s2.snd.snd.snd.fst).bind fun p4 =>
 (Ab.asInt IntKind.i64 (cell p4 0)).bind fun n5 =>
 if (n5 == s2.fst) = true then
 (Ab.asInt IntKind.i64 (cell p4 1)).bind fun n6 => some (PV.tup [PV.int IntKind.i64 n6, PV.bool true])
 else rec3 (s2.fst, s2.snd.fst, s2.snd.snd.fst, IntKind.i64.wrap (s2.snd.snd.snd.fst + 1), ())
else some (PV.tup [PV.int IntKind.i64 0, PV.bool false])
def through_Next (L : Lps) (p0 : PV) (p1 : PV) : Option PV :=
 (asSl 2 p0).bind fun es0 =>
 (Ab.asInt IntKind.i64 p1).bind fun n1 => L.run through_Next_L1 (n1, es0, (↑es0.length : Int), 0, ())
def through_Next_M : List PV → Option PV
  | [p0, p1] => through_Next lpS p0 p1
  | _ => none
def through_Chain_L1 (L : Lps) : (List PV × List PV × List (PV × PV) × Unit) → (List PV × List PV × List (PV × PV) × Unit → Option PV) → Option PV := fun s2 rec3 =>
 if inRange (IntKind.i64.wrap ((↑s2.snd.fst.length : Int) - 1)) s2.snd.fst.length then
 s2.snd.fst[(IntKind.i64.wrap ((↑s2.snd.fst.length : Int) - 1)).toNat]?.bind fun e4 =>
 (Ab.asInt IntKind.i64 (cell e4 0)).bind fun n5 =>
 (through_Next_M [PV.rs 2 s2.fst, PV.int IntKind.i64 n5]).bind fun r6 =>
 (asTup 2 r6).bind fun vs7 =>
 (Ab.asInt IntKind.i64 (vs7.getD 0 PV.bad)).bind fun n8 =>
 (Ab.asBool (vs7.getD 1 PV.bad)).bind fun b9 =>
 (bif !b9 then some true
 else
 (Ab.asBool (mlook (PV.int IntKind.i64 n8) (PV.bool false) s2.snd.snd.fst)).bind fun b10 =>
 some b10).bind
 fun r11 =>
 if r11 = true then some (PV.rs 1 s2.snd.fst)
 else
 if (s2.snd.fst ++ [PV.int IntKind.i64 n8]).length * 8 ≤ roomBound ∧ 0 < 8 then
 rec3
 (s2.fst, s2.snd.fst ++ [PV.int IntKind.i64 n8],
 mput (PV.int IntKind.i64 n8) (PV.bool true) s2.snd.snd.fst, ())
 else none
else none
def through_Chain (L : Lps) (p0 : PV) (p1 : PV) : Option PV :=
 (asSl 2 p0).bind fun es0 =>
 (Ab.asInt IntKind.i64 p1).bind fun n1 =>
 L.run (through_Chain_L1 L) (es0, [PV.int IntKind.i64 n1], mput (PV.int IntKind.i64 n1) (PV.bool true) [], ())
def through_Chain_M : List PV → Option PV
  | [p0, p1] => through_Chain lpS p0 p1
  | _ => none
def through_leads_L1 : (Int × List PV × Int × Int × Unit) → (Int × List PV × Int × Int × Unit → Option PV) → Option PV := fun s5 rec6 =>
 if decide (s5.snd.snd.snd.fst < s5.snd.snd.fst) = true then
 (idxP s5.snd.fst s5.snd.snd.snd.fst).bind fun p7 =>
 (Ab.asInt IntKind.i64 (cell p7 0)).bind fun n8 =>
 if (n8 == s5.fst) = true then some (PV.bool true)
 else rec6 (s5.fst, s5.snd.fst, s5.snd.snd.fst, IntKind.i64.wrap (s5.snd.snd.snd.fst + 1), ())
else some (PV.bool false)
def through_leads (L : Lps) (p0 : PV) (p1 : PV) (p2 : PV) : Option PV :=
 (asSl 2 p0).bind fun es0 =>
 (Ab.asInt IntKind.i64 p1).bind fun n1 =>
 (Ab.asInt IntKind.i64 p2).bind fun n2 =>
 (through_Chain_M [PV.rs 2 es0, PV.int IntKind.i64 n1]).bind fun r3 =>
 (asSl 1 r3).bind fun es4 => L.run through_leads_L1 (n2, es4, (↑es4.length : Int), 0, ())
def through_leads_M : List PV → Option PV
  | [p0, p1, p2] => through_leads lpS p0 p1 p2
  | _ => none
def frequency_Repeated_L1 : (Int × List PV × Int × Int × Unit) → (Int × List PV × Int × Int × Unit → Option PV) → Option PV := fun s2 rec3 =>
 if decide (s2.snd.snd.snd.fst < s2.snd.snd.fst) = true then
 (idxP s2.snd.fst s2.snd.snd.snd.fst).bind fun p4 =>
 (Ab.asInt IntKind.i64 (cell p4 0)).bind fun n5 =>
 if (n5 == s2.fst) = true then some (PV.bool true)
 else rec3 (s2.fst, s2.snd.fst, s2.snd.snd.fst, IntKind.i64.wrap (s2.snd.snd.snd.fst + 1), ())
else some (PV.bool false)
def frequency_Repeated (L : Lps) (p0 : PV) (p1 : PV) : Option PV :=
 (asSl 4 p0).bind fun es0 =>
 (Ab.asInt IntKind.i64 p1).bind fun n1 => L.run frequency_Repeated_L1 (n1, es0, (↑es0.length : Int), 0, ())
def frequency_Repeated_M : List PV → Option PV
  | [p0, p1] => frequency_Repeated lpS p0 p1
  | _ => none
def through_pair_1 (L : Lps) (p0 : PV) (c1 : PV) : Option PV :=
 (Ab.asInt IntKind.i64 p0).bind fun n0 =>
 (bif decide (n0 ≥ 0) then (asSl 5 c1).bind fun es1 => some (decide (n0 < (↑es1.length : Int))) else some false).bind
 fun r2 => some (PV.bool r2)
def through_pair_1_M : List PV → Option PV
  | [p0, PV.rp [c1]] => through_pair_1 lpS p0 c1
  | _ => none
def through_pair (L : Lps) (p0 : PV) (p1 : PV) (p2 : PV) (p3 : PV) : Option PV :=
 (Ab.asInt IntKind.i64 p0).bind fun n0 =>
 (Ab.asInt IntKind.i64 p1).bind fun n1 =>
 (asSl 5 p2).bind fun es2 =>
 (asSl 4 p3).bind fun es3 =>
 (through_pair_1_M [PV.int IntKind.i64 n0, PV.rp [PV.rs 5 es2]]).bind fun r4 =>
 (Ab.asBool r4).bind fun b5 =>
 (bif !b5 then some true
 else
 (through_pair_1_M [PV.int IntKind.i64 n1, PV.rp [PV.rs 5 es2]]).bind fun r6 =>
 (Ab.asBool r6).bind fun b7 => some !b7).bind
 fun r8 =>
 (bif r8 then some true else some (n0 == n1)).bind fun r9 =>
 if r9 = true then some (PV.tup [PV.int IntKind.i64 9, PV.int IntKind.i64 0])
 else
 (frequency_Repeated_M [PV.rs 4 es3, PV.int IntKind.i64 n0]).bind fun r10 =>
 (Ab.asBool r10).bind fun b11 =>
 (bif b11 then some true
 else
 (frequency_Repeated_M [PV.rs 4 es3, PV.int IntKind.i64 n1]).bind fun r12 =>
 (Ab.asBool r12).bind fun b13 => some b13).bind
 fun r14 =>
 if r14 = true then some (PV.tup [PV.int IntKind.i64 0, PV.int IntKind.i64 17])
 else some (PV.tup [PV.int IntKind.i64 0, PV.int IntKind.i64 0])
def through_pair_M : List PV → Option PV
  | [p0, p1, p2, p3] => through_pair lpS p0 p1 p2 p3
  | _ => none
def through_Check_L1 (L : Lps) : (List PV × List PV × List PV × List PV × Int × Int × List (PV × PV) × List (PV × PV) × Unit) → (List PV × List PV × List PV × List PV × Int × Int × List (PV × PV) × List (PV × PV) × Unit → Option PV) → Option PV := fun s3 rec4 =>
 if decide (s3.snd.snd.snd.snd.snd.fst < s3.snd.snd.snd.snd.fst) = true then
 (idxP s3.snd.snd.snd.fst s3.snd.snd.snd.snd.snd.fst).bind fun p5 =>
 (Ab.asInt IntKind.i64 (cell p5 0)).bind fun n6 =>
 (Ab.asInt IntKind.i64 (cell p5 1)).bind fun n7 =>
 (through_pair_M [PV.int IntKind.i64 n6, PV.int IntKind.i64 n7, PV.rs 5 s3.snd.fst, PV.rs 4 s3.snd.snd.fst]).bind
 fun r8 =>
 (asTup 2 r8).bind fun vs9 =>
 (Ab.asInt IntKind.i64 (vs9.getD 0 PV.bad)).bind fun n10 =>
 (Ab.asInt IntKind.i64 (vs9.getD 1 PV.bad)).bind fun n11 =>
 if (n10 != 0) = true then
 some (PV.tup [PV.int IntKind.i64 s3.snd.snd.snd.snd.snd.fst, PV.int IntKind.i64 n10])
 else
 if (n11 != 0) = true then
 some (PV.tup [PV.int IntKind.i64 s3.snd.snd.snd.snd.snd.fst, PV.int IntKind.i64 n11])
 else
 (Ab.asInt IntKind.i64 (cell p5 0)).bind fun n12 =>
 (idxP s3.snd.fst n12).bind fun p13 =>
 (Ab.asInt IntKind.i64 (cell p5 1)).bind fun n14 =>
 (idxP s3.snd.fst n14).bind fun p15 =>
 (through_follows_M
 [PV.agg [cell p13 0, cell p13 1, cell p13 2, cell p13 3, cell p13 4],
 PV.agg [cell p15 0, cell p15 1, cell p15 2, cell p15 3, cell p15 4]]).bind
 fun r16 =>
 (Ab.asInt IntKind.i64 r16).bind fun n17 =>
 if (n17 != 0) = true then
 some (PV.tup [PV.int IntKind.i64 s3.snd.snd.snd.snd.snd.fst, PV.int IntKind.i64 n17])
 else
 (Ab.asInt IntKind.i64 (cell p5 0)).bind fun n18 =>
 (Ab.asBool
 (mlook (PV.int IntKind.i64 n18) (PV.bool false)
 s3.snd.snd.snd.snd.snd.snd.fst)).bind
 fun b19 =>
 (bif b19 then some true
 else
 (Ab.asInt IntKind.i64 (cell p5 1)).bind fun n20 =>
 (Ab.asBool
 (mlook (PV.int IntKind.i64 n20) (PV.bool false)
 s3.snd.snd.snd.snd.snd.snd.snd.fst)).bind
 fun b21 => some b21).bind
 fun r22 =>
 if r22 = true then
 some
 (PV.tup
 [PV.int IntKind.i64 s3.snd.snd.snd.snd.snd.fst, PV.int IntKind.i64 6])
 else
 if
 (0 : Int) ≤ 0 ∧
 0 ≤ s3.snd.snd.snd.snd.snd.fst ∧
 s3.snd.snd.snd.snd.snd.fst ≤ (↑s3.fst.length : Int) ∧
 2 = 2 ∧ 2 ≠ 0 then
 (Ab.asInt IntKind.i64 (cell p5 1)).bind fun n23 =>
 (Ab.asInt IntKind.i64 (cell p5 0)).bind fun n24 =>
 (through_leads_M
 [PV.rs 2
 (List.drop (Int.toNat 0)
 (List.take s3.snd.snd.snd.snd.snd.fst.toNat s3.fst)),
 PV.int IntKind.i64 n23, PV.int IntKind.i64 n24]).bind
 fun r25 =>
 (Ab.asBool r25).bind fun b26 =>
 if b26 = true then
 some
 (PV.tup
 [PV.int IntKind.i64 s3.snd.snd.snd.snd.snd.fst,
 PV.int IntKind.i64 19])
 else
 (Ab.asInt IntKind.i64 (cell p5 0)).bind fun n27 =>
 (Ab.asInt IntKind.i64 (cell p5 1)).bind fun n28 =>
 rec4
 (s3.fst, s3.snd.fst, s3.snd.snd.fst, s3.snd.snd.snd.fst,
 s3.snd.snd.snd.snd.fst,
 IntKind.i64.wrap (s3.snd.snd.snd.snd.snd.fst + 1),
 mput (PV.int IntKind.i64 n27) (PV.bool true)
 s3.snd.snd.snd.snd.snd.snd.fst,
 mput (PV.int IntKind.i64 n28) (PV.bool true)
 s3.snd.snd.snd.snd.snd.snd.snd.fst,
 ())
 else none
else some (PV.tup [PV.int IntKind.i64 0, PV.int IntKind.i64 0])
def through_Check (L : Lps) (p0 : PV) (p1 : PV) (p2 : PV) : Option PV :=
 (asSl 2 p0).bind fun es0 =>
 (asSl 5 p1).bind fun es1 =>
 (asSl 4 p2).bind fun es2 =>
 if decide ((↑es0.length : Int) > 128) = true then some (PV.tup [PV.int IntKind.i64 0, PV.int IntKind.i64 5])
 else L.run (through_Check_L1 L) (es0, es1, es2, es0, (↑es0.length : Int), 0, [], [], ())
def through_Check_M : List PV → Option PV
  | [p0, p1, p2] => through_Check lpS p0 p1 p2
  | _ => none
def timetable_Check_7 (L : Lps) (c0 : PV) (c1 : PV) (c2 : PV) (c3 : PV) (c4 : PV) (c5 : PV) (c6 : PV) (c7 : PV) (c8 : PV) (c9 : PV) (c10 : PV) (c11 : PV) (c12 : PV) : Option
 PV :=
 (asSl 2 c6).bind fun es0 =>
 (asSl 5 c4).bind fun es1 =>
 (asSl 4 c5).bind fun es2 =>
 (through_Check_M [PV.rs 2 es0, PV.rs 5 es1, PV.rs 4 es2]).bind fun r3 =>
 (asTup 2 r3).bind fun vs4 =>
 (Ab.asInt IntKind.i64 (vs4.getD 0 PV.bad)).bind fun n5 =>
 (Ab.asInt IntKind.i64 (vs4.getD 1 PV.bad)).bind fun n6 =>
 some (PV.tup [PV.int IntKind.i64 n5, PV.int IntKind.i64 n6])
def timetable_Check_7_M : List PV → Option PV
  | [PV.rp [c0, c1, c2, c3, c4, c5, c6, c7, c8, c9, c10, c11, c12]] => timetable_Check_7 lpS c0 c1 c2 c3 c4 c5 c6 c7 c8 c9 c10 c11 c12
  | _ => none
def through_alighting_L1 : (Int × List PV × Int × Int × Unit) → (Int × List PV × Int × Int × Unit → Option PV) → Option PV := fun s2 rec3 =>
 if decide (s2.snd.snd.snd.fst < s2.snd.snd.fst) = true then
 (idxP s2.snd.fst s2.snd.snd.snd.fst).bind fun p4 =>
 (bif decide (s2.snd.snd.snd.fst > 0) then (Ab.asInt IntKind.i64 (cell p4 0)).bind fun n5 => some (n5 == s2.fst)
 else some false).bind
 fun r6 =>
 (bif r6 then (Ab.asBool (cell p4 4)).bind fun b7 => some b7 else some false).bind fun r8 =>
 if r8 = true then some (PV.int IntKind.i64 s2.snd.snd.snd.fst)
 else rec3 (s2.fst, s2.snd.fst, s2.snd.snd.fst, IntKind.i64.wrap (s2.snd.snd.snd.fst + 1), ())
else some (PV.int IntKind.i64 (-1))
def through_alighting (L : Lps) (p0 : PV) (p1 : PV) : Option PV :=
 (asSl 5 p0).bind fun es0 =>
 (Ab.asInt IntKind.i64 p1).bind fun n1 => L.run through_alighting_L1 (n1, es0, (↑es0.length : Int), 0, ())
def through_alighting_M : List PV → Option PV
  | [p0, p1] => through_alighting lpS p0 p1
  | _ => none
def through_boarding_L1 : (List PV × Int × List PV × Int × Int × Unit) → (List PV × Int × List PV × Int × Int × Unit → Option PV) → Option PV := fun s2 rec3 =>
 if decide (s2.snd.snd.snd.snd.fst < s2.snd.snd.snd.fst) = true then
 (idxP s2.snd.snd.fst s2.snd.snd.snd.snd.fst).bind fun p4 =>
 (bif decide (IntKind.i64.wrap (s2.snd.snd.snd.snd.fst + 1) < (↑s2.fst.length : Int)) then
 (Ab.asInt IntKind.i64 (cell p4 0)).bind fun n5 => some (n5 == s2.snd.fst)
 else some false).bind
 fun r6 =>
 (bif r6 then (Ab.asBool (cell p4 3)).bind fun b7 => some b7 else some false).bind fun r8 =>
 if r8 = true then some (PV.int IntKind.i64 s2.snd.snd.snd.snd.fst)
 else
 rec3
 (s2.fst, s2.snd.fst, s2.snd.snd.fst, s2.snd.snd.snd.fst, IntKind.i64.wrap (s2.snd.snd.snd.snd.fst + 1), ())
else some (PV.int IntKind.i64 (-1))
def through_boarding (L : Lps) (p0 : PV) (p1 : PV) : Option PV :=
 (asSl 5 p0).bind fun es0 =>
 (Ab.asInt IntKind.i64 p1).bind fun n1 => L.run through_boarding_L1 (es0, n1, es0, (↑es0.length : Int), 0, ())
def through_boarding_M : List PV → Option PV
  | [p0, p1] => through_boarding lpS p0 p1
  | _ => none
def through_Meets (L : Lps) (p0 : PV) (p1 : PV) (p2 : PV) : Option PV :=
 (asSl 5 p0).bind fun es0 =>
 (asSl 5 p1).bind fun es1 =>
 (Ab.asInt IntKind.i64 p2).bind fun n2 =>
 (through_alighting_M [PV.rs 5 es0, PV.int IntKind.i64 n2]).bind fun r3 =>
 (Ab.asInt IntKind.i64 r3).bind fun n4 =>
 (through_boarding_M [PV.rs 5 es1, PV.int IntKind.i64 n2]).bind fun r5 =>
 (Ab.asInt IntKind.i64 r5).bind fun n6 =>
 (bif decide (n4 < 0) then some true else some (decide (n6 < 0))).bind fun r7 =>
 (bif r7 then some true
 else
 (idxP es1 n6).bind fun p8 =>
 (Ab.asInt IntKind.i64 (cell p8 2)).bind fun n9 =>
 (idxP es0 n4).bind fun p10 =>
 (Ab.asInt IntKind.i64 (cell p10 1)).bind fun n11 => some (decide (n9 < n11))).bind
 fun r12 =>
 if r12 = true then some (PV.tup [PV.int IntKind.i64 0, PV.int IntKind.i64 0, PV.bool false])
 else some (PV.tup [PV.int IntKind.i64 n4, PV.int IntKind.i64 n6, PV.bool true])
def through_Meets_M : List PV → Option PV
  | [p0, p1, p2] => through_Meets lpS p0 p1 p2
  | _ => none
def through_CheckGuarantees_L1 : (List PV × List PV × Int × List PV × Int × Int × List (PV × PV) × Unit) → (List PV × List PV × Int × List PV × Int × Int × List (PV × PV) × Unit → Option PV) → Option PV := fun s4 rec5 =>
 if decide (s4.snd.snd.snd.snd.snd.fst < s4.snd.snd.snd.snd.fst) = true then
 (idxP s4.snd.snd.snd.fst s4.snd.snd.snd.snd.snd.fst).bind fun p6 =>
 (Ab.asInt IntKind.i64 (cell p6 0)).bind fun n7 =>
 (Ab.asInt IntKind.i64 (cell p6 1)).bind fun n8 =>
 (through_pair_M [PV.int IntKind.i64 n7, PV.int IntKind.i64 n8, PV.rs 5 s4.fst, PV.rs 4 s4.snd.fst]).bind
 fun r9 =>
 (asTup 2 r9).bind fun vs10 =>
 (Ab.asInt IntKind.i64 (vs10.getD 0 PV.bad)).bind fun n11 =>
 (Ab.asInt IntKind.i64 (vs10.getD 1 PV.bad)).bind fun n12 =>
 (bif n11 != 0 then some true
 else (Ab.asInt IntKind.i64 (cell p6 2)).bind fun n13 => some (decide (n13 < 0))).bind
 fun r14 =>
 (bif r14 then some true
 else (Ab.asInt IntKind.i64 (cell p6 2)).bind fun n15 => some (decide (n15 ≥ s4.snd.snd.fst))).bind
 fun r16 =>
 if r16 = true then
 some (PV.tup [PV.int IntKind.i64 s4.snd.snd.snd.snd.snd.fst, PV.int IntKind.i64 9])
 else
 if (n12 != 0) = true then
 some (PV.tup [PV.int IntKind.i64 s4.snd.snd.snd.snd.snd.fst, PV.int IntKind.i64 n12])
 else
 (Ab.asInt IntKind.i64 (cell p6 0)).bind fun n17 =>
 (idxP s4.fst n17).bind fun p18 =>
 (asSl 5 (cell p18 4)).bind fun es19 =>
 (Ab.asInt IntKind.i64 (cell p6 1)).bind fun n20 =>
 (idxP s4.fst n20).bind fun p21 =>
 (asSl 5 (cell p21 4)).bind fun es22 =>
 (Ab.asInt IntKind.i64 (cell p6 2)).bind fun n23 =>
 (through_Meets_M [PV.rs 5 es19, PV.rs 5 es22, PV.int IntKind.i64 n23]).bind
 fun r24 =>
 (asTup 3 r24).bind fun vs25 =>
 (Ab.asInt IntKind.i64 (vs25.getD 0 PV.bad)).bind fun n26 =>
 (Ab.asInt IntKind.i64 (vs25.getD 1 PV.bad)).bind fun n27 =>
 (Ab.asBool (vs25.getD 2 PV.bad)).bind fun b28 =>
 if (!b28) = true then
 some
 (PV.tup
 [PV.int IntKind.i64 s4.snd.snd.snd.snd.snd.fst,
 PV.int IntKind.i64 19])
 else
 (if
 chk
 (Kd.int IntKind.i64 ::
 [].append
 (Kd.int IntKind.i64 ::
 [].append (Kd.int IntKind.i64 :: [].append [])))
 [cell p6 0, cell p6 1, cell p6 2] =
 true then
 some (PV.agg [cell p6 0, cell p6 1, cell p6 2])
 else none).bind
 fun key29 =>
 (Ab.asBool
 (mlook key29 (PV.bool false)
 s4.snd.snd.snd.snd.snd.snd.fst)).bind
 fun b30 =>
 if b30 = true then
 some
 (PV.tup
 [PV.int IntKind.i64 s4.snd.snd.snd.snd.snd.fst,
 PV.int IntKind.i64 6])
 else
 (if
 chk
 (Kd.int IntKind.i64 ::
 [].append
 (Kd.int IntKind.i64 ::
 [].append
 (Kd.int IntKind.i64 :: [].append [])))
 [cell p6 0, cell p6 1, cell p6 2] =
 true then
 some (PV.agg [cell p6 0, cell p6 1, cell p6 2])
 else none).bind
 fun key31 =>
 rec5
 (s4.fst, s4.snd.fst, s4.snd.snd.fst, s4.snd.snd.snd.fst,
 s4.snd.snd.snd.snd.fst,
 IntKind.i64.wrap (s4.snd.snd.snd.snd.snd.fst + 1),
 mput key31 (PV.bool true) s4.snd.snd.snd.snd.snd.snd.fst,
 ())
else some (PV.tup [PV.int IntKind.i64 0, PV.int IntKind.i64 0])
def through_CheckGuarantees (L : Lps) (p0 : PV) (p1 : PV) (p2 : PV) (p3 : PV) : Option PV :=
 (asSl 3 p0).bind fun es0 =>
 (asSl 5 p1).bind fun es1 =>
 (asSl 4 p2).bind fun es2 =>
 (Ab.asInt IntKind.i64 p3).bind fun n3 =>
 if decide ((↑es0.length : Int) > 128) = true then some (PV.tup [PV.int IntKind.i64 0, PV.int IntKind.i64 5])
 else L.run through_CheckGuarantees_L1 (es1, es2, n3, es0, (↑es0.length : Int), 0, [], ())
def through_CheckGuarantees_M : List PV → Option PV
  | [p0, p1, p2, p3] => through_CheckGuarantees lpS p0 p1 p2 p3
  | _ => none
def timetable_Check_8 (L : Lps) (c0 : PV) (c1 : PV) (c2 : PV) (c3 : PV) (c4 : PV) (c5 : PV) (c6 : PV) (c7 : PV) (c8 : PV) (c9 : PV) (c10 : PV) (c11 : PV) (c12 : PV) (c13 : PV) : Option
 PV :=
 (asSl 3 c7).bind fun es0 =>
 (asSl 5 c4).bind fun es1 =>
 (asSl 4 c5).bind fun es2 =>
 (Ab.asInt IntKind.i64 c13).bind fun n3 =>
 (through_CheckGuarantees_M [PV.rs 3 es0, PV.rs 5 es1, PV.rs 4 es2, PV.int IntKind.i64 n3]).bind fun r4 =>
 (asTup 2 r4).bind fun vs5 =>
 (Ab.asInt IntKind.i64 (vs5.getD 0 PV.bad)).bind fun n6 =>
 (Ab.asInt IntKind.i64 (vs5.getD 1 PV.bad)).bind fun n7 =>
 some (PV.tup [PV.int IntKind.i64 n6, PV.int IntKind.i64 n7])
def timetable_Check_8_M : List PV → Option PV
  | [PV.rp [c0, c1, c2, c3, c4, c5, c6, c7, c8, c9, c10, c11, c12], PV.rp [c13]] => timetable_Check_8 lpS c0 c1 c2 c3 c4 c5 c6 c7 c8 c9 c10 c11 c12 c13
  | _ => none
def footpath_sound_L1 : (Int × List PV × Int × Int × List (PV × PV) × Unit) → (Int × List PV × Int × Int × List (PV × PV) × Unit → Option PV) → Option PV := fun s2 rec3 =>
 if decide (s2.snd.snd.snd.fst < s2.snd.snd.fst) = true then
 (idxP s2.snd.fst s2.snd.snd.snd.fst).bind fun p4 =>
 (Ab.asInt IntKind.i64 (cell p4 0)).bind fun n5 =>
 (Ab.asInt IntKind.i64 (cell p4 1)).bind fun n6 =>
 (Ab.asBool (cell p4 3)).bind fun b7 =>
 (Ab.asInt IntKind.i64 (cell p4 0)).bind fun n8 =>
 if decide (n8 < 0) = true then some (PV.tup [PV.int IntKind.i64 s2.snd.snd.snd.fst, PV.int IntKind.i64 9])
 else
 (Ab.asInt IntKind.i64 (cell p4 0)).bind fun n9 =>
 if decide (n9 ≥ s2.fst) = true then
 some (PV.tup [PV.int IntKind.i64 s2.snd.snd.snd.fst, PV.int IntKind.i64 9])
 else
 (Ab.asInt IntKind.i64 (cell p4 1)).bind fun n10 =>
 if decide (n10 < 0) = true then
 some (PV.tup [PV.int IntKind.i64 s2.snd.snd.snd.fst, PV.int IntKind.i64 9])
 else
 (Ab.asInt IntKind.i64 (cell p4 1)).bind fun n11 =>
 if decide (n11 ≥ s2.fst) = true then
 some (PV.tup [PV.int IntKind.i64 s2.snd.snd.snd.fst, PV.int IntKind.i64 9])
 else
 (Ab.asInt IntKind.i64 (cell p4 0)).bind fun n12 =>
 (Ab.asInt IntKind.i64 (cell p4 1)).bind fun n13 =>
 if (n12 == n13) = true then
 some (PV.tup [PV.int IntKind.i64 s2.snd.snd.snd.fst, PV.int IntKind.i64 9])
 else
 (Ab.asInt IntKind.i64 (cell p4 2)).bind fun n14 =>
 if decide (n14 < 1) = true then
 some (PV.tup [PV.int IntKind.i64 s2.snd.snd.snd.fst, PV.int IntKind.i64 2])
 else
 (Ab.asInt IntKind.i64 (cell p4 2)).bind fun n15 =>
 if decide (n15 > 14400) = true then
 some (PV.tup [PV.int IntKind.i64 s2.snd.snd.snd.fst, PV.int IntKind.i64 2])
 else
 (Ab.asBool
 (mlook (PV.agg [PV.int IntKind.i64 n5, PV.int IntKind.i64 n6, PV.bool b7])
 (PV.bool false) s2.snd.snd.snd.snd.fst)).bind
 fun b16 =>
 if b16 = true then
 some (PV.tup [PV.int IntKind.i64 s2.snd.snd.snd.fst, PV.int IntKind.i64 6])
 else
 rec3
 (s2.fst, s2.snd.fst, s2.snd.snd.fst,
 IntKind.i64.wrap (s2.snd.snd.snd.fst + 1),
 mput (PV.agg [PV.int IntKind.i64 n5, PV.int IntKind.i64 n6, PV.bool b7])
 (PV.bool true) s2.snd.snd.snd.snd.fst,
 ())
else some (PV.tup [PV.int IntKind.i64 0, PV.int IntKind.i64 0])
def footpath_sound (L : Lps) (p0 : PV) (p1 : PV) : Option PV :=
 (asSl 4 p0).bind fun es0 =>
 (Ab.asInt IntKind.i64 p1).bind fun n1 => L.run footpath_sound_L1 (n1, es0, (↑es0.length : Int), 0, [], ())
def footpath_sound_M : List PV → Option PV
  | [p0, p1] => footpath_sound lpS p0 p1
  | _ => none
def footpath_Check (L : Lps) (p0 : PV) (p1 : PV) : Option PV :=
 (asSl 4 p0).bind fun es0 =>
 (Ab.asInt IntKind.i64 p1).bind fun n1 =>
 if decide ((↑es0.length : Int) > 512) = true then some (PV.tup [PV.int IntKind.i64 0, PV.int IntKind.i64 5])
 else
 (footpath_sound_M [PV.rs 4 es0, PV.int IntKind.i64 n1]).bind fun r2 =>
 (asTup 2 r2).bind fun vs3 =>
 (Ab.asInt IntKind.i64 (vs3.getD 0 PV.bad)).bind fun n4 =>
 (Ab.asInt IntKind.i64 (vs3.getD 1 PV.bad)).bind fun n5 =>
 some (PV.tup [PV.int IntKind.i64 n4, PV.int IntKind.i64 n5])
def footpath_Check_M : List PV → Option PV
  | [p0, p1] => footpath_Check lpS p0 p1
  | _ => none
def timetable_Check_9 (L : Lps) (c0 : PV) (c1 : PV) (c2 : PV) (c3 : PV) (c4 : PV) (c5 : PV) (c6 : PV) (c7 : PV) (c8 : PV) (c9 : PV) (c10 : PV) (c11 : PV) (c12 : PV) (c13 : PV) : Option
 PV :=
 (asSl 4 c8).bind fun es0 =>
 (Ab.asInt IntKind.i64 c13).bind fun n1 =>
 (footpath_Check_M [PV.rs 4 es0, PV.int IntKind.i64 n1]).bind fun r2 =>
 (asTup 2 r2).bind fun vs3 =>
 (Ab.asInt IntKind.i64 (vs3.getD 0 PV.bad)).bind fun n4 =>
 (Ab.asInt IntKind.i64 (vs3.getD 1 PV.bad)).bind fun n5 =>
 some (PV.tup [PV.int IntKind.i64 n4, PV.int IntKind.i64 n5])
def timetable_Check_9_M : List PV → Option PV
  | [PV.rp [c0, c1, c2, c3, c4, c5, c6, c7, c8, c9, c10, c11, c12], PV.rp [c13]] => timetable_Check_9 lpS c0 c1 c2 c3 c4 c5 c6 c7 c8 c9 c10 c11 c12 c13
  | _ => none
def timetable_Check (L : Lps) (p0 : PV) : Option PV :=
 (Ab.asAgg 13 p0).bind fun x0 =>
 (asSl 4 (cell p0 0)).bind fun es1 =>
 (asSl 3 (cell p0 1)).bind fun es2 =>
 (asSl 10 (cell p0 2)).bind fun es3 =>
 (asSl 3 (cell p0 3)).bind fun es4 =>
 (asSl 5 (cell p0 4)).bind fun es5 =>
 (asSl 4 (cell p0 5)).bind fun es6 =>
 (asSl 2 (cell p0 6)).bind fun es7 =>
 (asSl 3 (cell p0 7)).bind fun es8 =>
 (asSl 4 (cell p0 8)).bind fun es9 =>
 (asSl 6 (cell p0 9)).bind fun es10 =>
 (Ab.asInt IntKind.i64 (cell p0 10)).bind fun n11 =>
 (Ab.asInt IntKind.i64 (cell p0 11)).bind fun n12 =>
 (Ab.asInt IntKind.i64 (cell p0 12)).bind fun n13 =>
 (timetable_Check_1_M
 [PV.rp
 [PV.rs 4 es1, PV.rs 3 es2, PV.rs 10 es3, PV.rs 3 es4, PV.rs 5 es5, PV.rs 4 es6,
 PV.rs 2 es7, PV.rs 3 es8, PV.rs 4 es9, PV.rs 6 es10, PV.int IntKind.i64 n11,
 PV.int IntKind.i64 n12, PV.int IntKind.i64 n13]]).bind
 fun r14 =>
 (asTup 2 r14).bind fun vs15 =>
 (Ab.asInt IntKind.i64 (vs15.getD 0 PV.bad)).bind fun n16 =>
 (Ab.asInt IntKind.i64 (vs15.getD 1 PV.bad)).bind fun n17 =>
 if (n17 != 0) = true then
 some
 (PV.tup [PV.int IntKind.i64 0, PV.int IntKind.i64 n16, PV.int IntKind.i64 n17])
 else
 (timetable_Check_2_M
 [PV.rp
 [PV.rs 4 es1, PV.rs 3 es2, PV.rs 10 es3, PV.rs 3 es4, PV.rs 5 es5,
 PV.rs 4 es6, PV.rs 2 es7, PV.rs 3 es8, PV.rs 4 es9, PV.rs 6 es10,
 PV.int IntKind.i64 n11, PV.int IntKind.i64 n12,
 PV.int IntKind.i64 n13]]).bind
 fun r18 =>
 (asTup 2 r18).bind fun vs19 =>
 (Ab.asInt IntKind.i64 (vs19.getD 0 PV.bad)).bind fun n20 =>
 (Ab.asInt IntKind.i64 (vs19.getD 1 PV.bad)).bind fun n21 =>
 if (n21 != 0) = true then
 some
 (PV.tup
 [PV.int IntKind.i64 (IntKind.i64.wrap (0 + 1)),
 PV.int IntKind.i64 n20, PV.int IntKind.i64 n21])
 else
 (timetable_Check_3_M
 [PV.rp
 [PV.rs 4 es1, PV.rs 3 es2, PV.rs 10 es3, PV.rs 3 es4,
 PV.rs 5 es5, PV.rs 4 es6, PV.rs 2 es7, PV.rs 3 es8,
 PV.rs 4 es9, PV.rs 6 es10, PV.int IntKind.i64 n11,
 PV.int IntKind.i64 n12, PV.int IntKind.i64 n13]]).bind
 fun r22 =>
 (asTup 2 r22).bind fun vs23 =>
 (Ab.asInt IntKind.i64 (vs23.getD 0 PV.bad)).bind fun n24 =>
 (Ab.asInt IntKind.i64 (vs23.getD 1 PV.bad)).bind fun n25 =>
 if (n25 != 0) = true then
 some
 (PV.tup
 [PV.int IntKind.i64
 (IntKind.i64.wrap (IntKind.i64.wrap (0 + 1) + 1)),
 PV.int IntKind.i64 n24, PV.int IntKind.i64 n25])
 else
 (timetable_Check_4_M
 [PV.rp
 [PV.rs 4 es1, PV.rs 3 es2, PV.rs 10 es3,
 PV.rs 3 es4, PV.rs 5 es5, PV.rs 4 es6,
 PV.rs 2 es7, PV.rs 3 es8, PV.rs 4 es9,
 PV.rs 6 es10, PV.int IntKind.i64 n11,
 PV.int IntKind.i64 n12, PV.int IntKind.i64 n13],
 PV.rp [PV.int IntKind.i64 (↑es3.length : Int)]]).bind
 fun r26 =>
 (asTup 2 r26).bind fun vs27 =>
 (Ab.asInt IntKind.i64 (vs27.getD 0 PV.bad)).bind
 fun n28 =>
 (Ab.asInt IntKind.i64 (vs27.getD 1 PV.bad)).bind
 fun n29 =>
 if (n29 != 0) = true then
 some
 (PV.tup
 [PV.int IntKind.i64
 (IntKind.i64.wrap
 (IntKind.i64.wrap
 (IntKind.i64.wrap (0 + 1) + 1) +
 1)),
 PV.int IntKind.i64 n28,
 PV.int IntKind.i64 n29])
 else
 (timetable_Check_5_M
 [PV.rp
 [PV.rs 4 es1, PV.rs 3 es2, PV.rs 10 es3,
 PV.rs 3 es4, PV.rs 5 es5, PV.rs 4 es6,
 PV.rs 2 es7, PV.rs 3 es8, PV.rs 4 es9,
 PV.rs 6 es10, PV.int IntKind.i64 n11,
 PV.int IntKind.i64 n12,
 PV.int IntKind.i64 n13],
 PV.rp
 [PV.int IntKind.i64 (↑es1.length : Int)],
 PV.rp
 [PV.int IntKind.i64 (↑es2.length : Int)],
 PV.rp
 [PV.int IntKind.i64
 (↑es3.length : Int)]]).bind
 fun r30 =>
 (asTup 2 r30).bind fun vs31 =>
 (Ab.asInt IntKind.i64 (vs31.getD 0 PV.bad)).bind
 fun n32 =>
 (Ab.asInt IntKind.i64
 (vs31.getD 1 PV.bad)).bind
 fun n33 =>
 if (n33 != 0) = true then
 some
 (PV.tup
 [PV.int IntKind.i64
 (IntKind.i64.wrap
 (IntKind.i64.wrap
 (IntKind.i64.wrap
 (IntKind.i64.wrap
 (0 + 1) +
 1) +
 1) +
 1)),
 PV.int IntKind.i64 n32,
 PV.int IntKind.i64 n33])
 else
 (timetable_Check_6_M
 [PV.rp
 [PV.rs 4 es1, PV.rs 3 es2,
 PV.rs 10 es3, PV.rs 3 es4,
 PV.rs 5 es5, PV.rs 4 es6,
 PV.rs 2 es7, PV.rs 3 es8,
 PV.rs 4 es9, PV.rs 6 es10,
 PV.int IntKind.i64 n11,
 PV.int IntKind.i64 n12,
 PV.int IntKind.i64 n13]]).bind
 fun r34 =>
 (asTup 2 r34).bind fun vs35 =>
 (Ab.asInt IntKind.i64
 (vs35.getD 0 PV.bad)).bind
 fun n36 =>
 (Ab.asInt IntKind.i64
 (vs35.getD 1 PV.bad)).bind
 fun n37 =>
 if (n37 != 0) = true then
 some
 (PV.tup
 [PV.int IntKind.i64
 (IntKind.i64.wrap
 (IntKind.i64.wrap
 (IntKind.i64.wrap
 (IntKind.i64.wrap
 (IntKind.i64.wrap
 (0 +
 1) +
 1) +
 1) +
 1) +
 1)),
 PV.int IntKind.i64 n36,
 PV.int IntKind.i64 n37])
 else
 (timetable_Check_7_M
 [PV.rp
 [PV.rs 4 es1,
 PV.rs 3 es2,
 PV.rs 10 es3,
 PV.rs 3 es4,
 PV.rs 5 es5,
 PV.rs 4 es6,
 PV.rs 2 es7,
 PV.rs 3 es8,
 PV.rs 4 es9,
 PV.rs 6 es10,
 PV.int IntKind.i64
 n11,
 PV.int IntKind.i64
 n12,
 PV.int IntKind.i64
 n13]]).bind
 fun r38 =>
 (asTup 2 r38).bind fun vs39 =>
 (Ab.asInt IntKind.i64
 (vs39.getD 0
 PV.bad)).bind
 fun n40 =>
 (Ab.asInt IntKind.i64
 (vs39.getD 1
 PV.bad)).bind
 fun n41 =>
 if
 (n41 != 0) =
 true then
 some
 (PV.tup
 [PV.int
 IntKind.i64
 (IntKind.i64.wrap
 (IntKind.i64.wrap
 (IntKind.i64.wrap
 (IntKind.i64.wrap
 (IntKind.i64.wrap
 (IntKind.i64.wrap
 (0 +
 1) +
 1) +
 1) +
 1) +
 1) +
 1)),
 PV.int
 IntKind.i64
 n40,
 PV.int
 IntKind.i64
 n41])
 else
 (timetable_Check_8_M
 [PV.rp
 [PV.rs 4
 es1,
 PV.rs 3
 es2,
 PV.rs 10
 es3,
 PV.rs 3
 es4,
 PV.rs 5
 es5,
 PV.rs 4
 es6,
 PV.rs 2
 es7,
 PV.rs 3
 es8,
 PV.rs 4
 es9,
 PV.rs 6
 es10,
 PV.int
 IntKind.i64
 n11,
 PV.int
 IntKind.i64
 n12,
 PV.int
 IntKind.i64
 n13],
 PV.rp
 [PV.int
 IntKind.i64
 (↑es1.length :
 Int)]]).bind
 fun r42 =>
 (asTup 2 r42).bind
 fun vs43 =>
 (Ab.asInt
 IntKind.i64
 (vs43.getD 0
 PV.bad)).bind
 fun n44 =>
 (Ab.asInt
 IntKind.i64
 (vs43.getD
 1
 PV.bad)).bind
 fun n45 =>
 if
 (n45 !=
 0) =
 true then
 some
 (PV.tup
 [PV.int
 IntKind.i64
 (IntKind.i64.wrap
 (IntKind.i64.wrap
 (IntKind.i64.wrap
 (IntKind.i64.wrap
 (IntKind.i64.wrap
 (IntKind.i64.wrap
 (IntKind.i64.wrap
 (0 +
 1) +
 1) +
 1) +
 1) +
 1) +
 1) +
 1)),
 PV.int
 IntKind.i64
 n44,
 PV.int
 IntKind.i64
 n45])
 else
 (timetable_Check_9_M
 [PV.rp
 [PV.rs
 4
 es1,
 PV.rs
 3
 es2,
 PV.rs
 10
 es3,
 PV.rs
 3
 es4,
 PV.rs
 5
 es5,
 PV.rs
 4
 es6,
 PV.rs
 2
 es7,
 PV.rs
 3
 es8,
 PV.rs
 4
 es9,
 PV.rs
 6
 es10,
 PV.int
 IntKind.i64
 n11,
 PV.int
 IntKind.i64
 n12,
 PV.int
 IntKind.i64
 n13],
 PV.rp
 [PV.int
 IntKind.i64
 (↑es1.length :
 Int)]]).bind
 fun r46 =>
 (asTup 2
 r46).bind
 fun
 vs47 =>
 (Ab.asInt
 IntKind.i64
 (vs47.getD
 0
 PV.bad)).bind
 fun
 n48 =>
 (Ab.asInt
 IntKind.i64
 (vs47.getD
 1
 PV.bad)).bind
 fun
 n49 =>
 if
 (n49 !=
 0) =
 true then
 some
 (PV.tup
 [PV.int
 IntKind.i64
 (IntKind.i64.wrap
 (IntKind.i64.wrap
 (IntKind.i64.wrap
 (IntKind.i64.wrap
 (IntKind.i64.wrap
 (IntKind.i64.wrap
 (IntKind.i64.wrap
 (IntKind.i64.wrap
 (0 +
 1) +
 1) +
 1) +
 1) +
 1) +
 1) +
 1) +
 1)),
 PV.int
 IntKind.i64
 n48,
 PV.int
 IntKind.i64
 n49])
 else
 (timetable_Check_10_M
 [PV.rp
 [PV.rs
 4
 es1,
 PV.rs
 3
 es2,
 PV.rs
 10
 es3,
 PV.rs
 3
 es4,
 PV.rs
 5
 es5,
 PV.rs
 4
 es6,
 PV.rs
 2
 es7,
 PV.rs
 3
 es8,
 PV.rs
 4
 es9,
 PV.rs
 6
 es10,
 PV.int
 IntKind.i64
 n11,
 PV.int
 IntKind.i64
 n12,
 PV.int
 IntKind.i64
 n13]]).bind
 fun
 r50 =>
 (asTup
 2
 r50).bind
 fun
 vs51 =>
 (Ab.asInt
 IntKind.i64
 (vs51.getD
 0
 PV.bad)).bind
 fun
 n52 =>
 (Ab.asInt
 IntKind.i64
 (vs51.getD
 1
 PV.bad)).bind
 fun
 n53 =>
 if
 (n53 !=
 0) =
 true then
 some
 (PV.tup
 [PV.int
 IntKind.i64
 (IntKind.i64.wrap
 (IntKind.i64.wrap
 (IntKind.i64.wrap
 (IntKind.i64.wrap
 (IntKind.i64.wrap
 (IntKind.i64.wrap
 (IntKind.i64.wrap
 (IntKind.i64.wrap
 (IntKind.i64.wrap
 (0 +
 1) +
 1) +
 1) +
 1) +
 1) +
 1) +
 1) +
 1) +
 1)),
 PV.int
 IntKind.i64
 n52,
 PV.int
 IntKind.i64
 n53])
 else
 some
 (PV.tup
 [PV.int
 IntKind.i64
 0,
 PV.int
 IntKind.i64
 0,
 PV.int
 IntKind.i64
 0])
def timetable_Check_M : List PV → Option PV
  | [p0] => timetable_Check lpS p0
  | _ => none
def timetable_Sizes_L1 : (Int ×
 List PV ×
 Int ×
 Int ×
 List PV ×
 List PV ×
 List PV ×
 List PV ×
 List PV ×
 List PV ×
 List PV ×
 List PV ×
 List PV ×
 List PV ×
 Int × Int × Int × Int × Int × Int × Int × Int × Int × Int × Int × Int × Int × Int × Unit) → (Int ×
 List PV ×
 Int ×
 Int ×
 List PV ×
 List PV ×
 List PV ×
 List PV ×
 List PV ×
 List PV ×
 List PV ×
 List PV ×
 List PV ×
 List PV ×
 Int ×
 Int × Int × Int × Int × Int × Int × Int × Int × Int × Int × Int × Int × Int × Unit →
 Option PV) → Option PV := fun s14 rec15 =>
 if decide (s14.snd.snd.snd.fst < s14.snd.snd.fst) = true then
 (idxP s14.snd.fst s14.snd.snd.snd.fst).bind fun p16 =>
 (asSl 5 (cell p16 4)).bind fun es17 =>
 rec15
 (IntKind.i64.wrap (s14.fst + (↑es17.length : Int)), s14.snd.fst, s14.snd.snd.fst,
 IntKind.i64.wrap (s14.snd.snd.snd.fst + 1), s14.snd.snd.snd.snd.fst, s14.snd.snd.snd.snd.snd.fst,
 s14.snd.snd.snd.snd.snd.snd.fst, s14.snd.snd.snd.snd.snd.snd.snd.fst, s14.snd.snd.snd.snd.snd.snd.snd.snd.fst,
 s14.snd.snd.snd.snd.snd.snd.snd.snd.snd.fst, s14.snd.snd.snd.snd.snd.snd.snd.snd.snd.snd.fst,
 s14.snd.snd.snd.snd.snd.snd.snd.snd.snd.snd.snd.fst, s14.snd.snd.snd.snd.snd.snd.snd.snd.snd.snd.snd.snd.fst,
 s14.snd.snd.snd.snd.snd.snd.snd.snd.snd.snd.snd.snd.snd.fst,
 s14.snd.snd.snd.snd.snd.snd.snd.snd.snd.snd.snd.snd.snd.snd.fst,
 s14.snd.snd.snd.snd.snd.snd.snd.snd.snd.snd.snd.snd.snd.snd.snd.fst,
 s14.snd.snd.snd.snd.snd.snd.snd.snd.snd.snd.snd.snd.snd.snd.snd.snd.fst,
 s14.snd.snd.snd.snd.snd.snd.snd.snd.snd.snd.snd.snd.snd.snd.snd.snd.snd.fst,
 s14.snd.snd.snd.snd.snd.snd.snd.snd.snd.snd.snd.snd.snd.snd.snd.snd.snd.snd.fst,
 s14.snd.snd.snd.snd.snd.snd.snd.snd.snd.snd.snd.snd.snd.snd.snd.snd.snd.snd.snd.fst,
 s14.snd.snd.snd.snd.snd.snd.snd.snd.snd.snd.snd.snd.snd.snd.snd.snd.snd.snd.snd.snd.fst,
 s14.snd.snd.snd.snd.snd.snd.snd.snd.snd.snd.snd.snd.snd.snd.snd.snd.snd.snd.snd.snd.snd.fst,
 s14.snd.snd.snd.snd.snd.snd.snd.snd.snd.snd.snd.snd.snd.snd.snd.snd.snd.snd.snd.snd.snd.snd.fst,
 s14.snd.snd.snd.snd.snd.snd.snd.snd.snd.snd.snd.snd.snd.snd.snd.snd.snd.snd.snd.snd.snd.snd.snd.fst,
 s14.snd.snd.snd.snd.snd.snd.snd.snd.snd.snd.snd.snd.snd.snd.snd.snd.snd.snd.snd.snd.snd.snd.snd.snd.fst,
 s14.snd.snd.snd.snd.snd.snd.snd.snd.snd.snd.snd.snd.snd.snd.snd.snd.snd.snd.snd.snd.snd.snd.snd.snd.snd.fst,
 s14.snd.snd.snd.snd.snd.snd.snd.snd.snd.snd.snd.snd.snd.snd.snd.snd.snd.snd.snd.snd.snd.snd.snd.snd.snd.snd.fst,
 s14.snd.snd.snd.snd.snd.snd.snd.snd.snd.snd.snd.snd.snd.snd.snd.snd.snd.snd.snd.snd.snd.snd.snd.snd.snd.snd.snd.fst,
 ())
else
 some
 (PV.agg
 [PV.int IntKind.i64 (↑s14.snd.snd.snd.snd.fst.length : Int),
 PV.int IntKind.i64 (↑s14.snd.snd.snd.snd.snd.fst.length : Int),
 PV.int IntKind.i64 (↑s14.snd.snd.snd.snd.snd.snd.fst.length : Int),
 PV.int IntKind.i64 (↑s14.snd.snd.snd.snd.snd.snd.snd.fst.length : Int),
 PV.int IntKind.i64 (↑s14.snd.snd.snd.snd.snd.snd.snd.snd.fst.length : Int), PV.int IntKind.i64 s14.fst,
 PV.int IntKind.i64 (↑s14.snd.snd.snd.snd.snd.snd.snd.snd.snd.fst.length : Int),
 PV.int IntKind.i64 (↑s14.snd.snd.snd.snd.snd.snd.snd.snd.snd.snd.fst.length : Int),
 PV.int IntKind.i64 (↑s14.snd.snd.snd.snd.snd.snd.snd.snd.snd.snd.snd.fst.length : Int),
 PV.int IntKind.i64 (↑s14.snd.snd.snd.snd.snd.snd.snd.snd.snd.snd.snd.snd.fst.length : Int),
 PV.int IntKind.i64 (↑s14.snd.snd.snd.snd.snd.snd.snd.snd.snd.snd.snd.snd.snd.fst.length : Int)])
def timetable_Sizes (L : Lps) (p0 : PV) : Option PV :=
 (Ab.asAgg 13 p0).bind fun x0 =>
 (asSl 4 (cell p0 0)).bind fun es1 =>
 (asSl 3 (cell p0 1)).bind fun es2 =>
 (asSl 10 (cell p0 2)).bind fun es3 =>
 (asSl 3 (cell p0 3)).bind fun es4 =>
 (asSl 5 (cell p0 4)).bind fun es5 =>
 (asSl 4 (cell p0 5)).bind fun es6 =>
 (asSl 2 (cell p0 6)).bind fun es7 =>
 (asSl 3 (cell p0 7)).bind fun es8 =>
 (asSl 4 (cell p0 8)).bind fun es9 =>
 (asSl 6 (cell p0 9)).bind fun es10 =>
 (Ab.asInt IntKind.i64 (cell p0 10)).bind fun n11 =>
 (Ab.asInt IntKind.i64 (cell p0 11)).bind fun n12 =>
 (Ab.asInt IntKind.i64 (cell p0 12)).bind fun n13 =>
 L.run timetable_Sizes_L1
 (0, es5, (↑es5.length : Int), 0, es1, es2, es3, es4, es5, es6, es7, es8, es9, es10, n11,
 n12, n13, 0, 0, 0, 0, 0, 0, 0, 0, 0, 0, 0, ())
def timetable_Sizes_M : List PV → Option PV
  | [p0] => timetable_Sizes lpS p0
  | _ => none
def law22_exampleHolds (L : Lps) : Option PV :=
 (timetable_Check_M
 [PV.agg
 [PV.rs 0 [], PV.rs 0 [], PV.rs 0 [], PV.rs 0 [], PV.rs 0 [], PV.rs 0 [], PV.rs 0 [], PV.rs 0 [], PV.rs 0 [],
 PV.rs 0 [], PV.int IntKind.i64 0, PV.int IntKind.i64 0, PV.int IntKind.i64 0]]).bind
 fun r0 =>
 (asTup 3 r0).bind fun vs1 =>
 (Ab.asInt IntKind.i64 (vs1.getD 0 PV.bad)).bind fun n2 =>
 (Ab.asInt IntKind.i64 (vs1.getD 1 PV.bad)).bind fun n3 =>
 (Ab.asInt IntKind.i64 (vs1.getD 2 PV.bad)).bind fun n4 =>
 (timetable_Check_M
 [PV.agg
 [PV.rs 4
 [PV.agg [PV.str [65], PV.int IntKind.i64 0, PV.bool false, PV.int IntKind.i64 0],
 PV.agg [PV.str [65], PV.int IntKind.i64 0, PV.bool false, PV.int IntKind.i64 0]],
 PV.rs 0 [], PV.rs 0 [], PV.rs 0 [], PV.rs 0 [], PV.rs 0 [], PV.rs 0 [], PV.rs 0 [], PV.rs 0 [],
 PV.rs 0 [], PV.int IntKind.i64 0, PV.int IntKind.i64 0, PV.int IntKind.i64 0]]).bind
 fun r5 =>
 (asTup 3 r5).bind fun vs6 =>
 (Ab.asInt IntKind.i64 (vs6.getD 0 PV.bad)).bind fun n7 =>
 (Ab.asInt IntKind.i64 (vs6.getD 1 PV.bad)).bind fun n8 =>
 (Ab.asInt IntKind.i64 (vs6.getD 2 PV.bad)).bind fun n9 =>
 (timetable_Check_M
 [PV.agg
 [PV.rs 4
 [PV.agg [PV.str [65], PV.int IntKind.i64 0, PV.bool false, PV.int IntKind.i64 0],
 PV.agg [PV.str [66], PV.int IntKind.i64 0, PV.bool false, PV.int IntKind.i64 0]],
 PV.rs 0 [], PV.rs 0 [], PV.rs 0 [], PV.rs 0 [], PV.rs 0 [], PV.rs 0 [], PV.rs 0 [],
 PV.rs 4
 [PV.agg
 [PV.int IntKind.i64 0, PV.int IntKind.i64 1, PV.int IntKind.i64 0,
 PV.bool false]],
 PV.rs 0 [], PV.int IntKind.i64 0, PV.int IntKind.i64 0, PV.int IntKind.i64 0]]).bind
 fun r10 =>
 (asTup 3 r10).bind fun vs11 =>
 (Ab.asInt IntKind.i64 (vs11.getD 0 PV.bad)).bind fun n12 =>
 (Ab.asInt IntKind.i64 (vs11.getD 1 PV.bad)).bind fun n13 =>
 (Ab.asInt IntKind.i64 (vs11.getD 2 PV.bad)).bind fun n14 =>
 (timetable_Check_M
 [PV.agg
 [PV.rs 0 [], PV.rs 0 [], PV.rs 0 [], PV.rs 0 [], PV.rs 0 [], PV.rs 0 [],
 PV.rs 0 [], PV.rs 0 [], PV.rs 0 [], PV.rs 0 [], PV.int IntKind.i64 0,
 PV.int IntKind.i64 0, PV.int IntKind.i64 (-1)]]).bind
 fun r15 =>
 (asTup 3 r15).bind fun vs16 =>
 (Ab.asInt IntKind.i64 (vs16.getD 0 PV.bad)).bind fun n17 =>
 (Ab.asInt IntKind.i64 (vs16.getD 1 PV.bad)).bind fun n18 =>
 (Ab.asInt IntKind.i64 (vs16.getD 2 PV.bad)).bind fun n19 =>
 (timetable_Sizes_M
 [PV.agg
 [PV.rs 4
 [PV.agg
 [PV.str [65], PV.int IntKind.i64 0, PV.bool false,
 PV.int IntKind.i64 0]],
 PV.rs 0 [], PV.rs 0 [], PV.rs 0 [],
 PV.rs 5
 [PV.agg
 [PV.str [], PV.int IntKind.i64 0, PV.int IntKind.i64 0,
 PV.bool false,
 PV.rs 5
 (List.replicate (Int.toNat 3)
 (PV.agg
 [PV.int IntKind.i64 0, PV.int IntKind.i64 0,
 PV.int IntKind.i64 0, PV.bool false,
 PV.bool false]))]],
 PV.rs 0 [], PV.rs 0 [], PV.rs 0 [], PV.rs 0 [], PV.rs 0 [],
 PV.int IntKind.i64 0, PV.int IntKind.i64 0,
 PV.int IntKind.i64 0]]).bind
 fun r20 =>
 (Ab.asAgg 11 r20).bind fun x21 =>
 (bif n2 == 0 then some (n3 == 0) else some false).bind fun r22 =>
 (bif r22 then some (n4 == 0) else some false).bind fun r23 =>
 (bif r23 then some (n7 == 0) else some false).bind fun r24 =>
 (bif r24 then some (n8 == 1) else some false).bind fun r25 =>
 (bif r25 then some (n9 == 6) else some false).bind fun r26 =>
 (bif r26 then some (n12 == 8) else some false).bind fun r27 =>
 (bif r27 then some (n13 == 0) else some false).bind fun r28 =>
 (bif r28 then some (n14 == 2) else some false).bind fun r29 =>
 (bif r29 then some (n17 == 9) else some false).bind
 fun r30 =>
 (bif r30 then some (n18 == -1) else some false).bind
 fun r31 =>
 (bif r31 then some (n19 == 2) else some false).bind
 fun r32 =>
 (bif r32 then
 if
 chk (kdsRep [Kd.int IntKind.i64] 11)
 [cell r20 0, cell r20 1, cell r20 2,
 cell r20 3, cell r20 4, cell r20 5,
 cell r20 6, cell r20 7, cell r20 8,
 cell r20 9, cell r20 10] =
 true ∧
 chk (kdsRep [Kd.int IntKind.i64] 11)
 [PV.int IntKind.i64 1,
 PV.int IntKind.i64 0,
 PV.int IntKind.i64 0,
 PV.int IntKind.i64 0,
 PV.int IntKind.i64 1,
 PV.int IntKind.i64 3,
 PV.int IntKind.i64 0,
 PV.int IntKind.i64 0,
 PV.int IntKind.i64 0,
 PV.int IntKind.i64 0,
 PV.int IntKind.i64 0] =
 true then
 some
 (peqL
 [cell r20 0, cell r20 1, cell r20 2,
 cell r20 3, cell r20 4, cell r20 5,
 cell r20 6, cell r20 7, cell r20 8,
 cell r20 9, cell r20 10]
 [PV.int IntKind.i64 1,
 PV.int IntKind.i64 0,
 PV.int IntKind.i64 0,
 PV.int IntKind.i64 0,
 PV.int IntKind.i64 1,
 PV.int IntKind.i64 3,
 PV.int IntKind.i64 0,
 PV.int IntKind.i64 0,
 PV.int IntKind.i64 0,
 PV.int IntKind.i64 0,
 PV.int IntKind.i64 0])
 else none
 else some false).bind
 fun r33 => some (PV.bool r33)
def law22_exampleHolds_M : List PV → Option PV
  | [] => law22_exampleHolds lpS 
  | _ => none
def ref13_Find_L1 : (List PV × Bytes × Int × Unit) → (List PV × Bytes × Int × Unit → Option PV) → Option PV := fun s2 rec3 =>
 if decide (s2.snd.snd.fst < (↑s2.fst.length : Int)) = true then
 (idxP s2.fst s2.snd.snd.fst).bind fun p4 =>
 (asStr (cell p4 0)).bind fun s5 =>
 if (s5 == s2.snd.fst) = true then some (PV.int IntKind.i64 s2.snd.snd.fst)
 else rec3 (s2.fst, s2.snd.fst, IntKind.i64.wrap (s2.snd.snd.fst + 1), ())
else some (PV.int IntKind.i64 (-1))
def ref13_Find (L : Lps) (p0 : PV) (p1 : PV) : Option PV :=
 (asSl 4 p0).bind fun es0 => (asStr p1).bind fun s1 => L.run ref13_Find_L1 (es0, s1, 0, ())
def ref13_Find_M : List PV → Option PV
  | [p0, p1] => ref13_Find lpS p0 p1
  | _ => none
def ref13_Identifier_L1 : (Bytes × Int × Unit) → (Bytes × Int × Unit → Option PV) → Option PV := fun s2 rec3 =>
 if decide (s2.snd.fst < (↑(List.length s2.fst) : Int)) = true then
 (idxB s2.fst s2.snd.fst).bind fun b4 =>
 (bif decide ((↑b4.toNat : Int) ≥ 65) then some (decide ((↑b4.toNat : Int) ≤ 90)) else some false).bind fun r5 =>
 (bif r5 then some true
 else
 (bif decide ((↑b4.toNat : Int) ≥ 97) then some (decide ((↑b4.toNat : Int) ≤ 122)) else some false).bind
 fun r6 => some r6).bind
 fun r7 =>
 (bif r7 then some true
 else
 (bif decide ((↑b4.toNat : Int) ≥ 48) then some (decide ((↑b4.toNat : Int) ≤ 57)) else some false).bind
 fun r8 => some r8).bind
 fun r9 =>
 (bif r9 then some true else some ((↑b4.toNat : Int) == 45)).bind fun r10 =>
 (bif r10 then some true else some ((↑b4.toNat : Int) == 95)).bind fun r11 =>
 (bif r11 then some true else some ((↑b4.toNat : Int) == 46)).bind fun r12 =>
 if (!r12) = true then some (PV.bool false) else rec3 (s2.fst, IntKind.i64.wrap (s2.snd.fst + 1), ())
else some (PV.bool true)
def ref13_Identifier (L : Lps) (p0 : PV) : Option PV :=
 (asStr p0).bind fun s0 =>
 (bif decide ((↑(List.length s0) : Int) < 1) then some true else some (decide ((↑(List.length s0) : Int) > 32))).bind
 fun r1 => if r1 = true then some (PV.bool false) else L.run ref13_Identifier_L1 (s0, 0, ())
def ref13_Identifier_M : List PV → Option PV
  | [p0] => ref13_Identifier lpS p0
  | _ => none
def ref13_Check_L1 : (List PV × Int × Unit) → (List PV × Int × Unit → Option PV) → Option PV := fun s1 rec2 =>
 if decide (s1.snd.fst < (↑s1.fst.length : Int)) = true then
 (idxP s1.fst s1.snd.fst).bind fun p3 =>
 (asStr (cell p3 0)).bind fun s4 =>
 (ref13_Identifier_M [PV.str s4]).bind fun r5 =>
 (Ab.asBool r5).bind fun b6 =>
 if (!b6) = true then some (PV.tup [PV.int IntKind.i64 s1.snd.fst, PV.int IntKind.i64 12])
 else
 (idxP s1.fst s1.snd.fst).bind fun p7 =>
 (asStr (cell p7 0)).bind fun s8 =>
 (ref13_Find_M [PV.rs 4 s1.fst, PV.str s8]).bind fun r9 =>
 (Ab.asInt IntKind.i64 r9).bind fun n10 =>
 if decide (n10 < s1.snd.fst) = true then
 some (PV.tup [PV.int IntKind.i64 s1.snd.fst, PV.int IntKind.i64 6])
 else
 (idxP s1.fst s1.snd.fst).bind fun p11 =>
 (Ab.asInt IntKind.i64 (cell p11 1)).bind fun n12 =>
 (bif decide (n12 < 0) then some true
 else
 (idxP s1.fst s1.snd.fst).bind fun p13 =>
 (Ab.asInt IntKind.i64 (cell p13 1)).bind fun n14 => some (decide (n14 ≥ 16))).bind
 fun r15 =>
 (bif r15 then some true
 else
 (idxP s1.fst s1.snd.fst).bind fun p16 =>
 (Ab.asInt IntKind.i64 (cell p16 3)).bind fun n17 => some (decide (n17 < 0))).bind
 fun r18 =>
 (bif r18 then some true
 else
 (idxP s1.fst s1.snd.fst).bind fun p19 =>
 (Ab.asInt IntKind.i64 (cell p19 3)).bind fun n20 =>
 some (decide (n20 > 3600))).bind
 fun r21 =>
 if r21 = true then some (PV.tup [PV.int IntKind.i64 s1.snd.fst, PV.int IntKind.i64 2])
 else rec2 (s1.fst, IntKind.i64.wrap (s1.snd.fst + 1), ())
else some (PV.tup [PV.int IntKind.i64 0, PV.int IntKind.i64 0])
def ref13_Check (L : Lps) (p0 : PV) : Option PV :=
 (asSl 4 p0).bind fun es0 =>
 if decide ((↑es0.length : Int) > 64) = true then some (PV.tup [PV.int IntKind.i64 0, PV.int IntKind.i64 5])
 else L.run ref13_Check_L1 (es0, 0, ())
def ref13_Check_M : List PV → Option PV
  | [p0] => ref13_Check lpS p0
  | _ => none
def ref02_Valid (L : Lps) (p0 : PV) : Option PV :=
 (Ab.asInt IntKind.i64 p0).bind fun n0 =>
 (bif decide (n0 ≥ 0) then some (decide (n0 ≤ 36524)) else some false).bind fun r1 => some (PV.bool r1)
def ref02_Valid_M : List PV → Option PV
  | [p0] => ref02_Valid lpS p0
  | _ => none
def ref05_Valid_L1 : (Bytes × Int × Unit) → (Bytes × Int × Unit → Option PV) → Option PV := fun s2 rec3 =>
 if decide (s2.snd.fst < (↑(List.length s2.fst) : Int)) = true then
 (idxB s2.fst s2.snd.fst).bind fun b4 =>
 (bif decide ((↑b4.toNat : Int) ≥ 65) then some (decide ((↑b4.toNat : Int) ≤ 90)) else some false).bind fun r5 =>
 (bif r5 then some true
 else
 (bif decide ((↑b4.toNat : Int) ≥ 97) then some (decide ((↑b4.toNat : Int) ≤ 122)) else some false).bind
 fun r6 => some r6).bind
 fun r7 =>
 (bif !r7 then
 (bif decide ((↑b4.toNat : Int) ≥ 48) then some (decide ((↑b4.toNat : Int) ≤ 57)) else some false).bind
 fun r8 => some !r8
 else some false).bind
 fun r9 =>
 (bif r9 then some ((↑b4.toNat : Int) != 45) else some false).bind fun r10 =>
 (bif r10 then some ((↑b4.toNat : Int) != 95) else some false).bind fun r11 =>
 (bif r11 then some ((↑b4.toNat : Int) != 46) else some false).bind fun r12 =>
 if r12 = true then some (PV.bool false) else rec3 (s2.fst, IntKind.i64.wrap (s2.snd.fst + 1), ())
else some (PV.bool true)
def ref05_Valid (L : Lps) (p0 : PV) : Option PV :=
 (asStr p0).bind fun s0 =>
 (bif (↑(List.length s0) : Int) == 0 then some true else some (decide ((↑(List.length s0) : Int) > 32))).bind fun r1 =>
 if r1 = true then some (PV.bool false) else L.run ref05_Valid_L1 (s0, 0, ())
def ref05_Valid_M : List PV → Option PV
  | [p0] => ref05_Valid lpS p0
  | _ => none
def ref14_Check_L1 (rec2 : List PV × Int × Unit → Option PV) : (List PV × Int × Int × Unit) → (List PV × Int × Int × Unit → Option PV) → Option PV := fun s7 rec8 =>
 if decide (s7.snd.snd.fst < s7.snd.fst) = true then
 (idxP s7.fst s7.snd.snd.fst).bind fun p9 =>
 (asStr (cell p9 0)).bind fun s10 =>
 (idxP s7.fst s7.snd.fst).bind fun p11 =>
 (asStr (cell p11 0)).bind fun s12 =>
 if (s10 == s12) = true then some (PV.tup [PV.int IntKind.i64 s7.snd.fst, PV.int IntKind.i64 6])
 else rec8 (s7.fst, s7.snd.fst, IntKind.i64.wrap (s7.snd.snd.fst + 1), ())
else
 (idxP s7.fst s7.snd.fst).bind fun p13 =>
 (Ab.asInt IntKind.i64 (cell p13 8)).bind fun n14 =>
 (ref02_Valid_M [PV.int IntKind.i64 n14]).bind fun r15 =>
 (Ab.asBool r15).bind fun b16 =>
 (bif !b16 then some true
 else
 (idxP s7.fst s7.snd.fst).bind fun p17 =>
 (Ab.asInt IntKind.i64 (cell p17 9)).bind fun n18 =>
 (ref02_Valid_M [PV.int IntKind.i64 n18]).bind fun r19 =>
 (Ab.asBool r19).bind fun b20 => some !b20).bind
 fun r21 =>
 (bif r21 then some true
 else
 (idxP s7.fst s7.snd.fst).bind fun p22 =>
 (Ab.asInt IntKind.i64 (cell p22 8)).bind fun n23 =>
 (idxP s7.fst s7.snd.fst).bind fun p24 =>
 (Ab.asInt IntKind.i64 (cell p24 9)).bind fun n25 => some (decide (n23 > n25))).bind
 fun r26 =>
 if r26 = true then some (PV.tup [PV.int IntKind.i64 s7.snd.fst, PV.int IntKind.i64 11])
 else rec2 (s7.fst, IntKind.i64.wrap (s7.snd.fst + 1), ())
def ref14_Check_L2 (L : Lps) : (List PV × Int × Unit) → (List PV × Int × Unit → Option PV) → Option PV := fun s1 rec2 =>
 if decide (s1.snd.fst < (↑s1.fst.length : Int)) = true then
 (idxP s1.fst s1.snd.fst).bind fun p3 =>
 (asStr (cell p3 0)).bind fun s4 =>
 (ref05_Valid_M [PV.str s4]).bind fun r5 =>
 (Ab.asBool r5).bind fun b6 =>
 if (!b6) = true then some (PV.tup [PV.int IntKind.i64 s1.snd.fst, PV.int IntKind.i64 12])
 else L.run (ref14_Check_L1 rec2) (s1.fst, s1.snd.fst, 0, ())
else some (PV.tup [PV.int IntKind.i64 0, PV.int IntKind.i64 0])
def ref14_Check (L : Lps) (p0 : PV) : Option PV :=
 (asSl 10 p0).bind fun es0 =>
 if decide ((↑es0.length : Int) > 64) = true then some (PV.tup [PV.int IntKind.i64 0, PV.int IntKind.i64 5])
 else L.run (ref14_Check_L2 L) (es0, 0, ())
def ref14_Check_M : List PV → Option PV
  | [p0] => ref14_Check lpS p0
  | _ => none
def ref14_CheckExceptions_L1 (rec3 : List PV × Int × Int × Unit → Option PV) : (List PV × Int × Int × Int × Unit) → (List PV × Int × Int × Int × Unit → Option PV) → Option PV := fun s13 rec14 =>
 if decide (s13.snd.snd.snd.fst < s13.snd.snd.fst) = true then
 (idxP s13.fst s13.snd.snd.snd.fst).bind fun p15 =>
 (Ab.asInt IntKind.i64 (cell p15 0)).bind fun n16 =>
 (idxP s13.fst s13.snd.snd.fst).bind fun p17 =>
 (Ab.asInt IntKind.i64 (cell p17 0)).bind fun n18 =>
 (bif n16 == n18 then
 (idxP s13.fst s13.snd.snd.snd.fst).bind fun p19 =>
 (Ab.asInt IntKind.i64 (cell p19 1)).bind fun n20 =>
 (idxP s13.fst s13.snd.snd.fst).bind fun p21 =>
 (Ab.asInt IntKind.i64 (cell p21 1)).bind fun n22 => some (n20 == n22)
 else some false).bind
 fun r23 =>
 if r23 = true then some (PV.tup [PV.int IntKind.i64 s13.snd.snd.fst, PV.int IntKind.i64 6])
 else rec14 (s13.fst, s13.snd.fst, s13.snd.snd.fst, IntKind.i64.wrap (s13.snd.snd.snd.fst + 1), ())
else rec3 (s13.fst, s13.snd.fst, IntKind.i64.wrap (s13.snd.snd.fst + 1), ())
def ref14_CheckExceptions_L2 (L : Lps) : (List PV × Int × Int × Unit) → (List PV × Int × Int × Unit → Option PV) → Option PV := fun s2 rec3 =>
 if decide (s2.snd.snd.fst < (↑s2.fst.length : Int)) = true then
 (idxP s2.fst s2.snd.snd.fst).bind fun p4 =>
 (Ab.asInt IntKind.i64 (cell p4 0)).bind fun n5 =>
 (bif decide (n5 < 0) then some true
 else
 (idxP s2.fst s2.snd.snd.fst).bind fun p6 =>
 (Ab.asInt IntKind.i64 (cell p6 0)).bind fun n7 => some (decide (n7 ≥ s2.snd.fst))).bind
 fun r8 =>
 if r8 = true then some (PV.tup [PV.int IntKind.i64 s2.snd.snd.fst, PV.int IntKind.i64 9])
 else
 (idxP s2.fst s2.snd.snd.fst).bind fun p9 =>
 (Ab.asInt IntKind.i64 (cell p9 1)).bind fun n10 =>
 (ref02_Valid_M [PV.int IntKind.i64 n10]).bind fun r11 =>
 (Ab.asBool r11).bind fun b12 =>
 if (!b12) = true then some (PV.tup [PV.int IntKind.i64 s2.snd.snd.fst, PV.int IntKind.i64 11])
 else L.run (ref14_CheckExceptions_L1 rec3) (s2.fst, s2.snd.fst, s2.snd.snd.fst, 0, ())
else some (PV.tup [PV.int IntKind.i64 0, PV.int IntKind.i64 0])
def ref14_CheckExceptions (L : Lps) (p0 : PV) (p1 : PV) : Option PV :=
 (asSl 3 p0).bind fun es0 =>
 (Ab.asInt IntKind.i64 p1).bind fun n1 =>
 if decide ((↑es0.length : Int) > 256) = true then some (PV.tup [PV.int IntKind.i64 0, PV.int IntKind.i64 5])
 else L.run (ref14_CheckExceptions_L2 L) (es0, n1, 0, ())
def ref14_CheckExceptions_M : List PV → Option PV
  | [p0, p1] => ref14_CheckExceptions lpS p0 p1
  | _ => none
def ref15_Name_L1 : (Bytes × Int × Unit) → (Bytes × Int × Unit → Option PV) → Option PV := fun s2 rec3 =>
 if decide (s2.snd.fst < (↑(List.length s2.fst) : Int)) = true then
 (idxB s2.fst s2.snd.fst).bind fun b4 =>
 (bif decide ((↑b4.toNat : Int) ≥ 97) then some (decide ((↑b4.toNat : Int) ≤ 122)) else some false).bind fun r5 =>
 (bif r5 then some true
 else
 (bif decide ((↑b4.toNat : Int) ≥ 65) then some (decide ((↑b4.toNat : Int) ≤ 90)) else some false).bind
 fun r6 => some r6).bind
 fun r7 =>
 (bif r7 then some true
 else
 (bif decide ((↑b4.toNat : Int) ≥ 48) then some (decide ((↑b4.toNat : Int) ≤ 57)) else some false).bind
 fun r8 => some r8).bind
 fun r9 =>
 (bif r9 then some true else some ((↑b4.toNat : Int) == 45)).bind fun r10 =>
 (bif r10 then some true else some ((↑b4.toNat : Int) == 95)).bind fun r11 =>
 (bif r11 then some true else some ((↑b4.toNat : Int) == 46)).bind fun r12 =>
 if (!r12) = true then some (PV.bool false) else rec3 (s2.fst, IntKind.i64.wrap (s2.snd.fst + 1), ())
else some (PV.bool true)
def ref15_Name (L : Lps) (p0 : PV) : Option PV :=
 (asStr p0).bind fun s0 =>
 (bif decide ((↑(List.length s0) : Int) < 1) then some true else some (decide ((↑(List.length s0) : Int) > 32))).bind
 fun r1 => if r1 = true then some (PV.bool false) else L.run ref15_Name_L1 (s0, 0, ())
def ref15_Name_M : List PV → Option PV
  | [p0] => ref15_Name lpS p0
  | _ => none
def ref15_mode (L : Lps) (p0 : PV) : Option PV :=
 (Ab.asInt IntKind.i64 p0).bind fun n0 =>
 (bif decide (n0 ≥ 0) then some (decide (n0 < 8)) else some false).bind fun r1 => some (PV.bool r1)
def ref15_mode_M : List PV → Option PV
  | [p0] => ref15_mode lpS p0
  | _ => none
def ref15_Check_L1 (rec2 : List PV × Int × Unit → Option PV) : (List PV × Int × Int × Unit) → (List PV × Int × Int × Unit → Option PV) → Option PV := fun s7 rec8 =>
 if decide (s7.snd.snd.fst < s7.snd.fst) = true then
 (idxP s7.fst s7.snd.snd.fst).bind fun p9 =>
 (asStr (cell p9 0)).bind fun s10 =>
 (idxP s7.fst s7.snd.fst).bind fun p11 =>
 (asStr (cell p11 0)).bind fun s12 =>
 if (s10 == s12) = true then some (PV.tup [PV.int IntKind.i64 s7.snd.fst, PV.int IntKind.i64 6])
 else rec8 (s7.fst, s7.snd.fst, IntKind.i64.wrap (s7.snd.snd.fst + 1), ())
else
 (idxP s7.fst s7.snd.fst).bind fun p13 =>
 (Ab.asInt IntKind.i64 (cell p13 1)).bind fun n14 =>
 (ref15_mode_M [PV.int IntKind.i64 n14]).bind fun r15 =>
 (Ab.asBool r15).bind fun b16 =>
 if (!b16) = true then some (PV.tup [PV.int IntKind.i64 s7.snd.fst, PV.int IntKind.i64 2])
 else rec2 (s7.fst, IntKind.i64.wrap (s7.snd.fst + 1), ())
def ref15_Check_L2 (L : Lps) : (List PV × Int × Unit) → (List PV × Int × Unit → Option PV) → Option PV := fun s1 rec2 =>
 if decide (s1.snd.fst < (↑s1.fst.length : Int)) = true then
 (idxP s1.fst s1.snd.fst).bind fun p3 =>
 (asStr (cell p3 0)).bind fun s4 =>
 (ref15_Name_M [PV.str s4]).bind fun r5 =>
 (Ab.asBool r5).bind fun b6 =>
 if (!b6) = true then some (PV.tup [PV.int IntKind.i64 s1.snd.fst, PV.int IntKind.i64 12])
 else L.run (ref15_Check_L1 rec2) (s1.fst, s1.snd.fst, 0, ())
else some (PV.tup [PV.int IntKind.i64 0, PV.int IntKind.i64 0])
def ref15_Check (L : Lps) (p0 : PV) : Option PV :=
 (asSl 3 p0).bind fun es0 =>
 if decide ((↑es0.length : Int) > 64) = true then some (PV.tup [PV.int IntKind.i64 0, PV.int IntKind.i64 5])
 else L.run (ref15_Check_L2 L) (es0, 0, ())
def ref15_Check_M : List PV → Option PV
  | [p0] => ref15_Check lpS p0
  | _ => none
def ref17_Find_L1 : (List PV × Bytes × Int × Unit) → (List PV × Bytes × Int × Unit → Option PV) → Option PV := fun s2 rec3 =>
 if decide (s2.snd.snd.fst < (↑s2.fst.length : Int)) = true then
 (idxP s2.fst s2.snd.snd.fst).bind fun p4 =>
 (asStr (cell p4 0)).bind fun s5 =>
 if (s5 == s2.snd.fst) = true then some (PV.int IntKind.i64 s2.snd.snd.fst)
 else rec3 (s2.fst, s2.snd.fst, IntKind.i64.wrap (s2.snd.snd.fst + 1), ())
else some (PV.int IntKind.i64 (-1))
def ref17_Find (L : Lps) (p0 : PV) (p1 : PV) : Option PV :=
 (asSl 5 p0).bind fun es0 => (asStr p1).bind fun s1 => L.run ref17_Find_L1 (es0, s1, 0, ())
def ref17_Find_M : List PV → Option PV
  | [p0, p1] => ref17_Find lpS p0 p1
  | _ => none
def ref17_calls_L1 : (List PV × Int × Int × Unit) → (List PV × Int × Int × Unit → Option PV) → Option PV := fun s3 rec4 =>
 if decide (s3.snd.snd.fst < (↑s3.fst.length : Int)) = true then
 (idxP s3.fst s3.snd.snd.fst).bind fun p5 =>
 (Ab.asInt IntKind.i64 (cell p5 0)).bind fun n6 =>
 (bif decide (n6 < 0) then some true
 else
 (idxP s3.fst s3.snd.snd.fst).bind fun p7 =>
 (Ab.asInt IntKind.i64 (cell p7 0)).bind fun n8 => some (decide (n8 ≥ s3.snd.fst))).bind
 fun r9 =>
 if r9 = true then some (PV.int IntKind.i64 9)
 else
 (bif decide (s3.snd.snd.fst > 0) then
 (idxP s3.fst s3.snd.snd.fst).bind fun p10 =>
 (Ab.asInt IntKind.i64 (cell p10 0)).bind fun n11 =>
 (idxP s3.fst (IntKind.i64.wrap (s3.snd.snd.fst - 1))).bind fun p12 =>
 (Ab.asInt IntKind.i64 (cell p12 0)).bind fun n13 => some (n11 == n13)
 else some false).bind
 fun r14 =>
 if r14 = true then some (PV.int IntKind.i64 13)
 else
 (idxP s3.fst s3.snd.snd.fst).bind fun p15 =>
 (Ab.asInt IntKind.i64 (cell p15 1)).bind fun n16 =>
 (bif decide (n16 < 0) then some true
 else
 (idxP s3.fst s3.snd.snd.fst).bind fun p17 =>
 (Ab.asInt IntKind.i64 (cell p17 1)).bind fun n18 =>
 (idxP s3.fst s3.snd.snd.fst).bind fun p19 =>
 (Ab.asInt IntKind.i64 (cell p19 2)).bind fun n20 => some (decide (n18 > n20))).bind
 fun r21 =>
 (bif r21 then some true
 else
 (idxP s3.fst s3.snd.snd.fst).bind fun p22 =>
 (Ab.asInt IntKind.i64 (cell p22 2)).bind fun n23 => some (decide (n23 > 172800))).bind
 fun r24 =>
 (bif r24 then some true
 else
 (bif decide (s3.snd.snd.fst > 0) then
 (idxP s3.fst s3.snd.snd.fst).bind fun p25 =>
 (Ab.asInt IntKind.i64 (cell p25 1)).bind fun n26 =>
 (idxP s3.fst (IntKind.i64.wrap (s3.snd.snd.fst - 1))).bind fun p27 =>
 (Ab.asInt IntKind.i64 (cell p27 2)).bind fun n28 => some (decide (n26 < n28))
 else some false).bind
 fun r29 => some r29).bind
 fun r30 =>
 if r30 = true then some (PV.int IntKind.i64 10)
 else rec4 (s3.fst, s3.snd.fst, IntKind.i64.wrap (s3.snd.snd.fst + 1), ())
else some (PV.int IntKind.i64 0)
def ref17_calls (L : Lps) (p0 : PV) (p1 : PV) : Option PV :=
 (asSl 5 p0).bind fun es0 =>
 (Ab.asInt IntKind.i64 p1).bind fun n1 =>
 (bif decide ((↑es0.length : Int) < 2) then some true else some (decide ((↑es0.length : Int) > 32))).bind fun r2 =>
 if r2 = true then some (PV.int IntKind.i64 5) else L.run ref17_calls_L1 (es0, n1, 0, ())
def ref17_calls_M : List PV → Option PV
  | [p0, p1] => ref17_calls lpS p0 p1
  | _ => none
def ref17_one (L : Lps) (p0 : PV) (p1 : PV) (p2 : PV) (p3 : PV) (p4 : PV) : Option PV :=
 (asSl 5 p0).bind fun es0 =>
 (Ab.asInt IntKind.i64 p1).bind fun n1 =>
 (Ab.asInt IntKind.i64 p2).bind fun n2 =>
 (Ab.asInt IntKind.i64 p3).bind fun n3 =>
 (Ab.asInt IntKind.i64 p4).bind fun n4 =>
 (idxP es0 n1).bind fun p5 =>
 (asStr (cell p5 0)).bind fun s6 =>
 (ref05_Valid_M [PV.str s6]).bind fun r7 =>
 (Ab.asBool r7).bind fun b8 =>
 if (!b8) = true then some (PV.int IntKind.i64 12)
 else
 if (0 : Int) ≤ 0 ∧ 0 ≤ n1 ∧ n1 ≤ (↑es0.length : Int) ∧ 5 = 5 ∧ 5 ≠ 0 then
 (asStr (cell p5 0)).bind fun s9 =>
 (ref17_Find_M [PV.rs 5 (List.drop (Int.toNat 0) (List.take n1.toNat es0)), PV.str s9]).bind
 fun r10 =>
 (Ab.asInt IntKind.i64 r10).bind fun n11 =>
 if decide (n11 ≥ 0) = true then some (PV.int IntKind.i64 6)
 else
 (Ab.asInt IntKind.i64 (cell p5 1)).bind fun n12 =>
 (bif decide (n12 < 0) then some true
 else
 (Ab.asInt IntKind.i64 (cell p5 1)).bind fun n13 => some (decide (n13 ≥ n3))).bind
 fun r14 =>
 (bif r14 then some true
 else
 (Ab.asInt IntKind.i64 (cell p5 2)).bind fun n15 => some (decide (n15 < 0))).bind
 fun r16 =>
 (bif r16 then some true
 else
 (Ab.asInt IntKind.i64 (cell p5 2)).bind fun n17 =>
 some (decide (n17 ≥ n4))).bind
 fun r18 =>
 if r18 = true then some (PV.int IntKind.i64 9)
 else
 (asSl 5 (cell p5 4)).bind fun es19 =>
 (ref17_calls_M [PV.rs 5 es19, PV.int IntKind.i64 n2]).bind fun r20 =>
 (Ab.asInt IntKind.i64 r20).bind fun n21 => some (PV.int IntKind.i64 n21)
 else none
def ref17_one_M : List PV → Option PV
  | [p0, p1, p2, p3, p4] => ref17_one lpS p0 p1 p2 p3 p4
  | _ => none
def ref17_Check_L1 : (List PV × Int × Int × Int × Int × Unit) → (List PV × Int × Int × Int × Int × Unit → Option PV) → Option PV := fun s4 rec5 =>
 if decide (s4.snd.snd.snd.snd.fst < (↑s4.fst.length : Int)) = true then
 (ref17_one_M
 [PV.rs 5 s4.fst, PV.int IntKind.i64 s4.snd.snd.snd.snd.fst, PV.int IntKind.i64 s4.snd.fst,
 PV.int IntKind.i64 s4.snd.snd.fst, PV.int IntKind.i64 s4.snd.snd.snd.fst]).bind
 fun r6 =>
 (Ab.asInt IntKind.i64 r6).bind fun n7 =>
 if (n7 != 0) = true then some (PV.tup [PV.int IntKind.i64 s4.snd.snd.snd.snd.fst, PV.int IntKind.i64 n7])
 else
 rec5 (s4.fst, s4.snd.fst, s4.snd.snd.fst, s4.snd.snd.snd.fst, IntKind.i64.wrap (s4.snd.snd.snd.snd.fst + 1), ())
else some (PV.tup [PV.int IntKind.i64 0, PV.int IntKind.i64 0])
def ref17_Check (L : Lps) (p0 : PV) (p1 : PV) (p2 : PV) (p3 : PV) : Option PV :=
 (asSl 5 p0).bind fun es0 =>
 (Ab.asInt IntKind.i64 p1).bind fun n1 =>
 (Ab.asInt IntKind.i64 p2).bind fun n2 =>
 (Ab.asInt IntKind.i64 p3).bind fun n3 =>
 if decide ((↑es0.length : Int) > 256) = true then some (PV.tup [PV.int IntKind.i64 0, PV.int IntKind.i64 5])
 else L.run ref17_Check_L1 (es0, n1, n2, n3, 0, ())
def ref17_Check_M : List PV → Option PV
  | [p0, p1, p2, p3] => ref17_Check lpS p0 p1 p2 p3
  | _ => none
def ref18_Sound (L : Lps) (p0 : PV) : Option PV :=
 (Ab.asAgg 4 p0).bind fun x0 =>
 (Ab.asInt IntKind.i64 (cell p0 0)).bind fun n1 =>
 (Ab.asInt IntKind.i64 (cell p0 1)).bind fun n2 =>
 (Ab.asInt IntKind.i64 (cell p0 2)).bind fun n3 =>
 (Ab.asInt IntKind.i64 (cell p0 3)).bind fun n4 =>
 (bif decide (n2 ≥ 0) then some (decide (n2 ≤ 172800)) else some false).bind fun r5 =>
 (bif r5 then some (decide (n3 ≥ 0)) else some false).bind fun r6 =>
 (bif r6 then some (decide (n3 ≤ 172800)) else some false).bind fun r7 =>
 (bif r7 then some (decide (n2 < n3)) else some false).bind fun r8 =>
 (bif r8 then some (decide (n4 ≥ 1)) else some false).bind fun r9 =>
 (bif r9 then some (decide (n4 ≤ 86400)) else some false).bind fun r10 => some (PV.bool r10)
def ref18_Sound_M : List PV → Option PV
  | [p0] => ref18_Sound lpS p0
  | _ => none
def ref18_count (L : Lps) (p0 : PV) : Option PV :=
 (Ab.asAgg 4 p0).bind fun x0 =>
 (Ab.asInt IntKind.i64 (cell p0 0)).bind fun n1 =>
 (Ab.asInt IntKind.i64 (cell p0 1)).bind fun n2 =>
 (Ab.asInt IntKind.i64 (cell p0 2)).bind fun n3 =>
 (Ab.asInt IntKind.i64 (cell p0 3)).bind fun n4 =>
 if n4 = 0 then none
 else
 some
 (PV.int IntKind.i64
 (IntKind.i64.wrap (IntKind.i64.wrap ((IntKind.i64.wrap (IntKind.i64.wrap (n3 - n2) - 1)).tdiv n4) + 1)))
def ref18_count_M : List PV → Option PV
  | [p0] => ref18_count lpS p0
  | _ => none
def ref18_Shift (L : Lps) (p0 : PV) (p1 : PV) (p2 : PV) : Option PV :=
 (Ab.asInt IntKind.i64 p0).bind fun n0 =>
 (Ab.asInt IntKind.i64 p1).bind fun n1 =>
 (Ab.asInt IntKind.i64 p2).bind fun n2 =>
 (bif decide (n1 < 0) then some true else some (decide (n1 > 172800))).bind fun r3 =>
 if r3 = true then some (PV.tup [PV.int IntKind.i64 0, PV.bool false])
 else
 if decide (n0 ≥ n2) = true then
 if decide (IntKind.u64.wrap (IntKind.u64.wrap n0 - IntKind.u64.wrap n2) > 172800) = true then
 some (PV.tup [PV.int IntKind.i64 0, PV.bool false])
 else
 (bif decide (IntKind.i64.wrap (n1 + IntKind.i64.wrap (n0 - n2)) ≥ 0) then
 some (decide (IntKind.i64.wrap (n1 + IntKind.i64.wrap (n0 - n2)) ≤ 172800))
 else some false).bind
 fun r4 =>
 some (PV.tup [PV.int IntKind.i64 (IntKind.i64.wrap (n1 + IntKind.i64.wrap (n0 - n2))), PV.bool r4])
 else
 if decide (IntKind.u64.wrap (IntKind.u64.wrap n2 - IntKind.u64.wrap n0) > 172800) = true then
 some (PV.tup [PV.int IntKind.i64 0, PV.bool false])
 else
 (bif decide (IntKind.i64.wrap (n1 + IntKind.i64.wrap (n0 - n2)) ≥ 0) then
 some (decide (IntKind.i64.wrap (n1 + IntKind.i64.wrap (n0 - n2)) ≤ 172800))
 else some false).bind
 fun r5 =>
 some (PV.tup [PV.int IntKind.i64 (IntKind.i64.wrap (n1 + IntKind.i64.wrap (n0 - n2))), PV.bool r5])
def ref18_Shift_M : List PV → Option PV
  | [p0, p1, p2] => ref18_Shift lpS p0 p1 p2
  | _ => none
def ref18_Calls_L1 (L : Lps) : (Int × Int × Int × Bytes × Int × Int × Bool × List PV × List PV × Unit) → (Int × Int × Int × Bytes × Int × Int × Bool × List PV × List PV × Unit → Option PV) → Option PV := fun s9 rec10 =>
 if decide (s9.snd.snd.fst < (↑s9.snd.snd.snd.snd.snd.snd.snd.fst.length : Int)) = true then
 (idxP s9.snd.snd.snd.snd.snd.snd.snd.fst s9.snd.snd.fst).bind fun p11 =>
 (Ab.asInt IntKind.i64 (cell p11 1)).bind fun n12 =>
 (ref18_Shift_M [PV.int IntKind.i64 n12, PV.int IntKind.i64 s9.fst, PV.int IntKind.i64 s9.snd.fst]).bind fun r13 =>
 (asTup 2 r13).bind fun vs14 =>
 (Ab.asInt IntKind.i64 (vs14.getD 0 PV.bad)).bind fun n15 =>
 (Ab.asBool (vs14.getD 1 PV.bad)).bind fun b16 =>
 (Ab.asInt IntKind.i64 (cell p11 2)).bind fun n17 =>
 (ref18_Shift_M [PV.int IntKind.i64 n17, PV.int IntKind.i64 s9.fst, PV.int IntKind.i64 s9.snd.fst]).bind
 fun r18 =>
 (asTup 2 r18).bind fun vs19 =>
 (Ab.asInt IntKind.i64 (vs19.getD 0 PV.bad)).bind fun n20 =>
 (Ab.asBool (vs19.getD 1 PV.bad)).bind fun b21 =>
 (bif !b16 then some true else some !b21).bind fun r22 =>
 if r22 = true then some (PV.tup [PV.rs 5 [], PV.int IntKind.i64 10])
 else
 (Ab.asInt IntKind.i64 (cell p11 0)).bind fun n23 =>
 (Ab.asBool (cell p11 3)).bind fun b24 =>
 (Ab.asBool (cell p11 4)).bind fun b25 =>
 if
 (s9.snd.snd.snd.snd.snd.snd.snd.snd.fst ++
 [PV.agg
 [PV.int IntKind.i64 n23, PV.int IntKind.i64 n15,
 PV.int IntKind.i64 n20, PV.bool b24, PV.bool b25]]).length *
 32 ≤
 roomBound ∧
 0 < 32 then
 rec10
 (s9.fst, s9.snd.fst, IntKind.i64.wrap (s9.snd.snd.fst + 1), s9.snd.snd.snd.fst,
 s9.snd.snd.snd.snd.fst, s9.snd.snd.snd.snd.snd.fst,
 s9.snd.snd.snd.snd.snd.snd.fst, s9.snd.snd.snd.snd.snd.snd.snd.fst,
 s9.snd.snd.snd.snd.snd.snd.snd.snd.fst ++
 [PV.agg
 [PV.int IntKind.i64 n23, PV.int IntKind.i64 n15, PV.int IntKind.i64 n20,
 PV.bool b24, PV.bool b25]],
 ())
 else none
else some (PV.tup [PV.rs 5 s9.snd.snd.snd.snd.snd.snd.snd.snd.fst, PV.int IntKind.i64 0])
def ref18_Calls (L : Lps) (p0 : PV) (p1 : PV) : Option PV :=
 (Ab.asAgg 5 p0).bind fun x0 =>
 (asStr (cell p0 0)).bind fun s1 =>
 (Ab.asInt IntKind.i64 (cell p0 1)).bind fun n2 =>
 (Ab.asInt IntKind.i64 (cell p0 2)).bind fun n3 =>
 (Ab.asBool (cell p0 3)).bind fun b4 =>
 (asSl 5 (cell p0 4)).bind fun es5 =>
 (Ab.asInt IntKind.i64 p1).bind fun n6 =>
 if ((↑es5.length : Int) == 0) = true then some (PV.tup [PV.rs 5 [], PV.int IntKind.i64 16])
 else
 (idxP es5 0).bind fun p7 =>
 (Ab.asInt IntKind.i64 (cell p7 2)).bind fun n8 =>
 L.run (ref18_Calls_L1 L) (n6, n8, 0, s1, n2, n3, b4, es5, [], ())
def ref18_Calls_M : List PV → Option PV
  | [p0, p1] => ref18_Calls lpS p0 p1
  | _ => none
def ref18_Starts_L1 (L : Lps) : (Int × Int × Int × Int × Int × List PV × Unit) → (Int × Int × Int × Int × Int × List PV × Unit → Option PV) → Option PV := fun s7 rec8 =>
 if decide (s7.fst < s7.snd.snd.snd.fst) = true then
 if (s7.snd.snd.snd.snd.snd.fst ++ [PV.int IntKind.i64 s7.fst]).length * 8 ≤ roomBound ∧ 0 < 8 then
 rec8
 (IntKind.i64.wrap (s7.fst + s7.snd.snd.snd.snd.fst), s7.snd.fst, s7.snd.snd.fst, s7.snd.snd.snd.fst,
 s7.snd.snd.snd.snd.fst, s7.snd.snd.snd.snd.snd.fst ++ [PV.int IntKind.i64 s7.fst], ())
 else none
else some (PV.rs 1 s7.snd.snd.snd.snd.snd.fst)
def ref18_Starts (L : Lps) (p0 : PV) : Option PV :=
 (Ab.asAgg 4 p0).bind fun x0 =>
 (Ab.asInt IntKind.i64 (cell p0 0)).bind fun n1 =>
 (Ab.asInt IntKind.i64 (cell p0 1)).bind fun n2 =>
 (Ab.asInt IntKind.i64 (cell p0 2)).bind fun n3 =>
 (Ab.asInt IntKind.i64 (cell p0 3)).bind fun n4 =>
 (ref18_Sound_M
 [PV.agg
 [PV.int IntKind.i64 n1, PV.int IntKind.i64 n2, PV.int IntKind.i64 n3, PV.int IntKind.i64 n4]]).bind
 fun r5 =>
 (Ab.asBool r5).bind fun b6 =>
 if (!b6) = true then some (PV.rs 1 []) else L.run (ref18_Starts_L1 L) (n2, n1, n2, n3, n4, [], ())
def ref18_Starts_M : List PV → Option PV
  | [p0] => ref18_Starts lpS p0
  | _ => none
def ref18_fits (L : Lps) (p0 : PV) (p1 : PV) : Option PV :=
 (Ab.asAgg 5 p0).bind fun x0 =>
 (asStr (cell p0 0)).bind fun s1 =>
 (Ab.asInt IntKind.i64 (cell p0 1)).bind fun n2 =>
 (Ab.asInt IntKind.i64 (cell p0 2)).bind fun n3 =>
 (Ab.asBool (cell p0 3)).bind fun b4 =>
 (asSl 5 (cell p0 4)).bind fun es5 =>
 (Ab.asAgg 4 p1).bind fun x6 =>
 (Ab.asInt IntKind.i64 (cell p1 0)).bind fun n7 =>
 (Ab.asInt IntKind.i64 (cell p1 1)).bind fun n8 =>
 (Ab.asInt IntKind.i64 (cell p1 2)).bind fun n9 =>
 (Ab.asInt IntKind.i64 (cell p1 3)).bind fun n10 =>
 (ref18_Starts_M
 [PV.agg
 [PV.int IntKind.i64 n7, PV.int IntKind.i64 n8, PV.int IntKind.i64 n9,
 PV.int IntKind.i64 n10]]).bind
 fun r11 =>
 (asSl 1 r11).bind fun es12 =>
 (idxP es12 0).bind fun p13 =>
 (Ab.asInt IntKind.i64 (cell p13 0)).bind fun n14 =>
 (ref18_Calls_M
 [PV.agg
 [PV.str s1, PV.int IntKind.i64 n2, PV.int IntKind.i64 n3, PV.bool b4,
 PV.rs 5 es5],
 PV.int IntKind.i64 n14]).bind
 fun r15 =>
 (asTup 2 r15).bind fun vs16 =>
 (asSl 5 (vs16.getD 0 PV.bad)).bind fun es17 =>
 (Ab.asInt IntKind.i64 (vs16.getD 1 PV.bad)).bind fun n18 =>
 (idxP es12 (IntKind.i64.wrap ((↑es12.length : Int) - 1))).bind fun p19 =>
 (Ab.asInt IntKind.i64 (cell p19 0)).bind fun n20 =>
 (ref18_Calls_M
 [PV.agg
 [PV.str s1, PV.int IntKind.i64 n2, PV.int IntKind.i64 n3,
 PV.bool b4, PV.rs 5 es5],
 PV.int IntKind.i64 n20]).bind
 fun r21 =>
 (asTup 2 r21).bind fun vs22 =>
 (asSl 5 (vs22.getD 0 PV.bad)).bind fun es23 =>
 (Ab.asInt IntKind.i64 (vs22.getD 1 PV.bad)).bind fun n24 =>
 (bif n18 != 10 then some (n24 != 10) else some false).bind fun r25 =>
 some (PV.bool r25)
def ref18_fits_M : List PV → Option PV
  | [p0, p1] => ref18_fits lpS p0 p1
  | _ => none
def ref18_Check_L1 (rec3 : List PV × List PV × Int × Unit → Option PV) : (List PV × List PV × Int × Int × Bool × Int × PV × PV × PV × PV × Unit) → (List PV × List PV × Int × Int × Bool × Int × PV × PV × PV × PV × Unit → Option PV) → Option PV := fun s15 rec16 =>
 if decide (s15.snd.snd.snd.snd.snd.fst ≤ s15.snd.snd.fst) = true then
 (idxP s15.fst s15.snd.snd.snd.snd.snd.fst).bind fun p17 =>
 (Ab.asInt IntKind.i64 (cell p17 0)).bind fun n18 =>
 (Ab.asInt IntKind.i64 s15.snd.snd.snd.snd.snd.snd.fst).bind fun n19 =>
 if (n18 != n19) = true then
 rec16
 (s15.fst, s15.snd.fst, s15.snd.snd.fst, s15.snd.snd.snd.fst, s15.snd.snd.snd.snd.fst,
 IntKind.i64.wrap (s15.snd.snd.snd.snd.snd.fst + 1), s15.snd.snd.snd.snd.snd.snd.fst,
 s15.snd.snd.snd.snd.snd.snd.snd.fst, s15.snd.snd.snd.snd.snd.snd.snd.snd.fst,
 s15.snd.snd.snd.snd.snd.snd.snd.snd.snd.fst, ())
 else
 (idxP s15.fst s15.snd.snd.snd.snd.snd.fst).bind fun p20 =>
 (ref18_count_M [PV.agg [cell p20 0, cell p20 1, cell p20 2, cell p20 3]]).bind fun r21 =>
 (Ab.asInt IntKind.i64 r21).bind fun n22 =>
 (bif decide (s15.snd.snd.snd.snd.snd.fst < s15.snd.snd.fst) then
 (idxP s15.fst s15.snd.snd.snd.snd.snd.fst).bind fun p23 =>
 (Ab.asInt IntKind.i64 (cell p23 1)).bind fun n24 =>
 (Ab.asInt IntKind.i64 s15.snd.snd.snd.snd.snd.snd.snd.snd.fst).bind fun n25 =>
 some (decide (n24 < n25))
 else some false).bind
 fun r26 =>
 (bif r26 then
 (Ab.asInt IntKind.i64 s15.snd.snd.snd.snd.snd.snd.snd.fst).bind fun n27 =>
 (idxP s15.fst s15.snd.snd.snd.snd.snd.fst).bind fun p28 =>
 (Ab.asInt IntKind.i64 (cell p28 2)).bind fun n29 => some (decide (n27 < n29))
 else some false).bind
 fun r30 =>
 if r30 = true then
 rec16
 (s15.fst, s15.snd.fst, s15.snd.snd.fst, IntKind.i64.wrap (s15.snd.snd.snd.fst + n22), true,
 IntKind.i64.wrap (s15.snd.snd.snd.snd.snd.fst + 1), s15.snd.snd.snd.snd.snd.snd.fst,
 s15.snd.snd.snd.snd.snd.snd.snd.fst, s15.snd.snd.snd.snd.snd.snd.snd.snd.fst,
 s15.snd.snd.snd.snd.snd.snd.snd.snd.snd.fst, ())
 else
 rec16
 (s15.fst, s15.snd.fst, s15.snd.snd.fst, IntKind.i64.wrap (s15.snd.snd.snd.fst + n22),
 s15.snd.snd.snd.snd.fst, IntKind.i64.wrap (s15.snd.snd.snd.snd.snd.fst + 1),
 s15.snd.snd.snd.snd.snd.snd.fst, s15.snd.snd.snd.snd.snd.snd.snd.fst,
 s15.snd.snd.snd.snd.snd.snd.snd.snd.fst, s15.snd.snd.snd.snd.snd.snd.snd.snd.snd.fst, ())
else
 if decide (s15.snd.snd.snd.fst > 256) = true then
 some (PV.tup [PV.int IntKind.i64 s15.snd.snd.fst, PV.int IntKind.i64 17])
 else
 if s15.snd.snd.snd.snd.fst = true then some (PV.tup [PV.int IntKind.i64 s15.snd.snd.fst, PV.int IntKind.i64 8])
 else rec3 (s15.fst, s15.snd.fst, IntKind.i64.wrap (s15.snd.snd.fst + 1), ())
def ref18_Check_L2 (L : Lps) : (List PV × List PV × Int × Unit) → (List PV × List PV × Int × Unit → Option PV) → Option PV := fun s2 rec3 =>
 if decide (s2.snd.snd.fst < (↑s2.fst.length : Int)) = true then
 (idxP s2.fst s2.snd.snd.fst).bind fun p4 =>
 (Ab.asInt IntKind.i64 (cell p4 0)).bind fun n5 =>
 (bif decide (n5 < 0) then some true
 else (Ab.asInt IntKind.i64 (cell p4 0)).bind fun n6 => some (decide (n6 ≥ (↑s2.snd.fst.length : Int)))).bind
 fun r7 =>
 if r7 = true then some (PV.tup [PV.int IntKind.i64 s2.snd.snd.fst, PV.int IntKind.i64 9])
 else
 (ref18_Sound_M [PV.agg [cell p4 0, cell p4 1, cell p4 2, cell p4 3]]).bind fun r8 =>
 (Ab.asBool r8).bind fun b9 =>
 (bif !b9 then some true
 else
 (Ab.asInt IntKind.i64 (cell p4 0)).bind fun n10 =>
 (idxP s2.snd.fst n10).bind fun p11 =>
 (ref18_fits_M
 [PV.agg [cell p11 0, cell p11 1, cell p11 2, cell p11 3, cell p11 4],
 PV.agg [cell p4 0, cell p4 1, cell p4 2, cell p4 3]]).bind
 fun r12 => (Ab.asBool r12).bind fun b13 => some !b13).bind
 fun r14 =>
 if r14 = true then some (PV.tup [PV.int IntKind.i64 s2.snd.snd.fst, PV.int IntKind.i64 10])
 else
 L.run (ref18_Check_L1 rec3)
 (s2.fst, s2.snd.fst, s2.snd.snd.fst, 0, false, 0, cell p4 0, cell p4 1, cell p4 2, cell p4 3, ())
else some (PV.tup [PV.int IntKind.i64 0, PV.int IntKind.i64 0])
def ref18_Check (L : Lps) (p0 : PV) (p1 : PV) : Option PV :=
 (asSl 4 p0).bind fun es0 =>
 (asSl 5 p1).bind fun es1 =>
 if decide ((↑es0.length : Int) > 64) = true then some (PV.tup [PV.int IntKind.i64 0, PV.int IntKind.i64 5])
 else L.run (ref18_Check_L2 L) (es0, es1, 0, ())
def ref18_Check_M : List PV → Option PV
  | [p0, p1] => ref18_Check lpS p0 p1
  | _ => none
def ref19_Has_L1 : (List PV × Int × Int × Unit) → (List PV × Int × Int × Unit → Option PV) → Option PV := fun s2 rec3 =>
 if decide (s2.snd.snd.fst < (↑s2.fst.length : Int)) = true then
 (idxP s2.fst s2.snd.snd.fst).bind fun p4 =>
 (Ab.asInt IntKind.i64 (cell p4 0)).bind fun n5 =>
 if (n5 == s2.snd.fst) = true then some (PV.bool true)
 else rec3 (s2.fst, s2.snd.fst, IntKind.i64.wrap (s2.snd.snd.fst + 1), ())
else some (PV.bool false)
def ref19_Has (L : Lps) (p0 : PV) (p1 : PV) : Option PV :=
 (asSl 1 p0).bind fun es0 => (Ab.asInt IntKind.i64 p1).bind fun n1 => L.run ref19_Has_L1 (es0, n1, 0, ())
def ref19_Has_M : List PV → Option PV
  | [p0, p1] => ref19_Has lpS p0 p1
  | _ => none
def ref19_Next_L1 : (List PV × Int × Int × Unit) → (List PV × Int × Int × Unit → Option PV) → Option PV := fun s2 rec3 =>
 if decide (s2.snd.snd.fst < (↑s2.fst.length : Int)) = true then
 (idxP s2.fst s2.snd.snd.fst).bind fun p4 =>
 (Ab.asInt IntKind.i64 (cell p4 0)).bind fun n5 =>
 if (n5 == s2.snd.fst) = true then
 (idxP s2.fst s2.snd.snd.fst).bind fun p6 =>
 (Ab.asInt IntKind.i64 (cell p6 1)).bind fun n7 => some (PV.tup [PV.int IntKind.i64 n7, PV.bool true])
 else rec3 (s2.fst, s2.snd.fst, IntKind.i64.wrap (s2.snd.snd.fst + 1), ())
else some (PV.tup [PV.int IntKind.i64 0, PV.bool false])
def ref19_Next (L : Lps) (p0 : PV) (p1 : PV) : Option PV :=
 (asSl 2 p0).bind fun es0 => (Ab.asInt IntKind.i64 p1).bind fun n1 => L.run ref19_Next_L1 (es0, n1, 0, ())
def ref19_Next_M : List PV → Option PV
  | [p0, p1] => ref19_Next lpS p0 p1
  | _ => none
def ref19_Chain_L1 (L : Lps) : (List PV × Int × Int × List PV × Unit) → (List PV × Int × Int × List PV × Unit → Option PV) → Option PV := fun s2 rec3 =>
 if decide (s2.snd.snd.fst < s2.snd.fst) = true then
 if inRange (IntKind.i64.wrap ((↑s2.snd.snd.snd.fst.length : Int) - 1)) s2.snd.snd.snd.fst.length then
 s2.snd.snd.snd.fst[(IntKind.i64.wrap ((↑s2.snd.snd.snd.fst.length : Int) - 1)).toNat]?.bind fun e4 =>
 (Ab.asInt IntKind.i64 (cell e4 0)).bind fun n5 =>
 (ref19_Next_M [PV.rs 2 s2.fst, PV.int IntKind.i64 n5]).bind fun r6 =>
 (asTup 2 r6).bind fun vs7 =>
 (Ab.asInt IntKind.i64 (vs7.getD 0 PV.bad)).bind fun n8 =>
 (Ab.asBool (vs7.getD 1 PV.bad)).bind fun b9 =>
 (bif !b9 then some true
 else
 (ref19_Has_M [PV.rs 1 s2.snd.snd.snd.fst, PV.int IntKind.i64 n8]).bind fun r10 =>
 (Ab.asBool r10).bind fun b11 => some b11).bind
 fun r12 =>
 if r12 = true then some (PV.rs 1 s2.snd.snd.snd.fst)
 else
 if (s2.snd.snd.snd.fst ++ [PV.int IntKind.i64 n8]).length * 8 ≤ roomBound ∧ 0 < 8 then
 rec3
 (s2.fst, s2.snd.fst, IntKind.i64.wrap (s2.snd.snd.fst + 1),
 s2.snd.snd.snd.fst ++ [PV.int IntKind.i64 n8], ())
 else none
 else none
else some (PV.rs 1 s2.snd.snd.snd.fst)
def ref19_Chain (L : Lps) (p0 : PV) (p1 : PV) : Option PV :=
 (asSl 2 p0).bind fun es0 =>
 (Ab.asInt IntKind.i64 p1).bind fun n1 =>
 L.run (ref19_Chain_L1 L) (es0, (↑es0.length : Int), 0, [PV.int IntKind.i64 n1], ())
def ref19_Chain_M : List PV → Option PV
  | [p0, p1] => ref19_Chain lpS p0 p1
  | _ => none
def ref19_in (L : Lps) (p0 : PV) (p1 : PV) : Option PV :=
 (Ab.asInt IntKind.i64 p0).bind fun n0 =>
 (Ab.asInt IntKind.i64 p1).bind fun n1 =>
 (bif decide (n0 ≥ 0) then some (decide (n0 < n1)) else some false).bind fun r2 => some (PV.bool r2)
def ref19_in_M : List PV → Option PV
  | [p0, p1] => ref19_in lpS p0 p1
  | _ => none
def ref19_repeated_L1 : (List PV × Int × Int × Unit) → (List PV × Int × Int × Unit → Option PV) → Option PV := fun s2 rec3 =>
 if decide (s2.snd.snd.fst < (↑s2.fst.length : Int)) = true then
 (idxP s2.fst s2.snd.snd.fst).bind fun p4 =>
 (Ab.asInt IntKind.i64 (cell p4 0)).bind fun n5 =>
 if (n5 == s2.snd.fst) = true then some (PV.bool true)
 else rec3 (s2.fst, s2.snd.fst, IntKind.i64.wrap (s2.snd.snd.fst + 1), ())
else some (PV.bool false)
def ref19_repeated (L : Lps) (p0 : PV) (p1 : PV) : Option PV :=
 (asSl 4 p0).bind fun es0 => (Ab.asInt IntKind.i64 p1).bind fun n1 => L.run ref19_repeated_L1 (es0, n1, 0, ())
def ref19_repeated_M : List PV → Option PV
  | [p0, p1] => ref19_repeated lpS p0 p1
  | _ => none
def ref19_one_L1 (L : Lps) : (List PV × Int × Int × PV × PV × Unit) → (List PV × Int × Int × PV × PV × Unit → Option PV) → Option PV := fun s44 rec45 =>
 if decide (s44.snd.snd.fst < s44.snd.fst) = true then
 (idxP s44.fst s44.snd.snd.fst).bind fun p46 =>
 (Ab.asInt IntKind.i64 (cell p46 0)).bind fun n47 =>
 (Ab.asInt IntKind.i64 s44.snd.snd.snd.fst).bind fun n48 =>
 (bif n47 == n48 then some true
 else
 (idxP s44.fst s44.snd.snd.fst).bind fun p49 =>
 (Ab.asInt IntKind.i64 (cell p49 1)).bind fun n50 =>
 (Ab.asInt IntKind.i64 s44.snd.snd.snd.snd.fst).bind fun n51 => some (n50 == n51)).bind
 fun r52 =>
 if r52 = true then some (PV.int IntKind.i64 6)
 else
 rec45
 (s44.fst, s44.snd.fst, IntKind.i64.wrap (s44.snd.snd.fst + 1), s44.snd.snd.snd.fst,
 s44.snd.snd.snd.snd.fst, ())
else
 if (0 : Int) ≤ 0 ∧ 0 ≤ s44.snd.fst ∧ s44.snd.fst ≤ (↑s44.fst.length : Int) ∧ 2 = 2 ∧ 2 ≠ 0 then
 (Ab.asInt IntKind.i64 s44.snd.snd.snd.snd.fst).bind fun n53 =>
 (ref19_Chain_M
 [PV.rs 2 (List.drop (Int.toNat 0) (List.take s44.snd.fst.toNat s44.fst)), PV.int IntKind.i64 n53]).bind
 fun r54 =>
 (asSl 1 r54).bind fun es55 =>
 (Ab.asInt IntKind.i64 s44.snd.snd.snd.fst).bind fun n56 =>
 (ref19_Has_M [PV.rs 1 es55, PV.int IntKind.i64 n56]).bind fun r57 =>
 (Ab.asBool r57).bind fun b58 =>
 if b58 = true then some (PV.int IntKind.i64 19) else some (PV.int IntKind.i64 0)
 else none
def ref19_one (L : Lps) (p0 : PV) (p1 : PV) (p2 : PV) (p3 : PV) : Option PV :=
 (asSl 2 p0).bind fun es0 =>
 (Ab.asInt IntKind.i64 p1).bind fun n1 =>
 (asSl 5 p2).bind fun es2 =>
 (asSl 4 p3).bind fun es3 =>
 (idxP es0 n1).bind fun p4 =>
 (Ab.asInt IntKind.i64 (cell p4 0)).bind fun n5 =>
 (ref19_in_M [PV.int IntKind.i64 n5, PV.int IntKind.i64 (↑es2.length : Int)]).bind fun r6 =>
 (Ab.asBool r6).bind fun b7 =>
 (bif !b7 then some true
 else
 (Ab.asInt IntKind.i64 (cell p4 1)).bind fun n8 =>
 (ref19_in_M [PV.int IntKind.i64 n8, PV.int IntKind.i64 (↑es2.length : Int)]).bind fun r9 =>
 (Ab.asBool r9).bind fun b10 => some !b10).bind
 fun r11 =>
 (bif r11 then some true
 else
 (Ab.asInt IntKind.i64 (cell p4 0)).bind fun n12 =>
 (Ab.asInt IntKind.i64 (cell p4 1)).bind fun n13 => some (n12 == n13)).bind
 fun r14 =>
 if r14 = true then some (PV.int IntKind.i64 9)
 else
 (Ab.asInt IntKind.i64 (cell p4 0)).bind fun n15 =>
 (ref19_repeated_M [PV.rs 4 es3, PV.int IntKind.i64 n15]).bind fun r16 =>
 (Ab.asBool r16).bind fun b17 =>
 (bif b17 then some true
 else
 (Ab.asInt IntKind.i64 (cell p4 1)).bind fun n18 =>
 (ref19_repeated_M [PV.rs 4 es3, PV.int IntKind.i64 n18]).bind fun r19 =>
 (Ab.asBool r19).bind fun b20 => some b20).bind
 fun r21 =>
 if r21 = true then some (PV.int IntKind.i64 17)
 else
 (Ab.asInt IntKind.i64 (cell p4 0)).bind fun n22 =>
 (idxP es2 n22).bind fun p23 =>
 (Ab.asInt IntKind.i64 (cell p4 1)).bind fun n24 =>
 (idxP es2 n24).bind fun p25 =>
 (Ab.asInt IntKind.i64 (cell p23 2)).bind fun n26 =>
 (Ab.asInt IntKind.i64 (cell p25 2)).bind fun n27 =>
 if (n26 != n27) = true then some (PV.int IntKind.i64 15)
 else
 (asSl 5 (cell p23 4)).bind fun es28 =>
 (bif decide (IntKind.i64.wrap ((↑es28.length : Int) - 1) < 0) then
 some true
 else
 (asSl 5 (cell p25 4)).bind fun es29 =>
 some ((↑es29.length : Int) == 0)).bind
 fun r30 =>
 (bif r30 then some true
 else
 (asSl 5 (cell p23 4)).bind fun es31 =>
 (idxP es31 (IntKind.i64.wrap ((↑es28.length : Int) - 1))).bind
 fun p32 =>
 (Ab.asInt IntKind.i64 (cell p32 0)).bind fun n33 =>
 (asSl 5 (cell p25 4)).bind fun es34 =>
 (idxP es34 0).bind fun p35 =>
 (Ab.asInt IntKind.i64 (cell p35 0)).bind fun n36 =>
 some (n33 != n36)).bind
 fun r37 =>
 if r37 = true then some (PV.int IntKind.i64 13)
 else
 (asSl 5 (cell p25 4)).bind fun es38 =>
 (idxP es38 0).bind fun p39 =>
 (Ab.asInt IntKind.i64 (cell p39 2)).bind fun n40 =>
 (asSl 5 (cell p23 4)).bind fun es41 =>
 (idxP es41
 (IntKind.i64.wrap ((↑es28.length : Int) - 1))).bind
 fun p42 =>
 (Ab.asInt IntKind.i64 (cell p42 1)).bind fun n43 =>
 if decide (n40 < n43) = true then
 some (PV.int IntKind.i64 10)
 else
 L.run (ref19_one_L1 L)
 (es0, n1, 0, cell p4 0, cell p4 1, ())
def ref19_one_M : List PV → Option PV
  | [p0, p1, p2, p3] => ref19_one lpS p0 p1 p2 p3
  | _ => none
def ref19_Check_L1 : (List PV × List PV × List PV × Int × Unit) → (List PV × List PV × List PV × Int × Unit → Option PV) → Option PV := fun s3 rec4 =>
 if decide (s3.snd.snd.snd.fst < (↑s3.fst.length : Int)) = true then
 (ref19_one_M [PV.rs 2 s3.fst, PV.int IntKind.i64 s3.snd.snd.snd.fst, PV.rs 5 s3.snd.fst, PV.rs 4 s3.snd.snd.fst]).bind
 fun r5 =>
 (Ab.asInt IntKind.i64 r5).bind fun n6 =>
 if (n6 != 0) = true then some (PV.tup [PV.int IntKind.i64 s3.snd.snd.snd.fst, PV.int IntKind.i64 n6])
 else rec4 (s3.fst, s3.snd.fst, s3.snd.snd.fst, IntKind.i64.wrap (s3.snd.snd.snd.fst + 1), ())
else some (PV.tup [PV.int IntKind.i64 0, PV.int IntKind.i64 0])
def ref19_Check (L : Lps) (p0 : PV) (p1 : PV) (p2 : PV) : Option PV :=
 (asSl 2 p0).bind fun es0 =>
 (asSl 5 p1).bind fun es1 =>
 (asSl 4 p2).bind fun es2 =>
 if decide ((↑es0.length : Int) > 128) = true then some (PV.tup [PV.int IntKind.i64 0, PV.int IntKind.i64 5])
 else L.run ref19_Check_L1 (es0, es1, es2, 0, ())
def ref19_Check_M : List PV → Option PV
  | [p0, p1, p2] => ref19_Check lpS p0 p1 p2
  | _ => none
def ref19_Meets_L1 : (List PV × List PV × Int × Int × Int × Unit) → (List PV × List PV × Int × Int × Int × Unit → Option PV) → Option PV := fun s10 rec11 =>
 if decide (IntKind.i64.wrap (s10.snd.snd.snd.snd.fst + 1) < (↑s10.snd.fst.length : Int)) = true then
 (idxP s10.snd.fst s10.snd.snd.snd.snd.fst).bind fun p12 =>
 (Ab.asInt IntKind.i64 (cell p12 0)).bind fun n13 =>
 (bif n13 == s10.snd.snd.fst then
 (idxP s10.snd.fst s10.snd.snd.snd.snd.fst).bind fun p14 => (Ab.asBool (cell p14 3)).bind fun b15 => some b15
 else some false).bind
 fun r16 =>
 if r16 = true then
 (idxP s10.snd.fst s10.snd.snd.snd.snd.fst).bind fun p17 =>
 (Ab.asInt IntKind.i64 (cell p17 2)).bind fun n18 =>
 (idxP s10.fst s10.snd.snd.snd.fst).bind fun p19 =>
 (Ab.asInt IntKind.i64 (cell p19 1)).bind fun n20 =>
 if decide (n18 < n20) = true then
 some (PV.tup [PV.int IntKind.i64 0, PV.int IntKind.i64 0, PV.bool false])
 else
 some
 (PV.tup
 [PV.int IntKind.i64 s10.snd.snd.snd.fst, PV.int IntKind.i64 s10.snd.snd.snd.snd.fst,
 PV.bool true])
 else
 rec11
 (s10.fst, s10.snd.fst, s10.snd.snd.fst, s10.snd.snd.snd.fst, IntKind.i64.wrap (s10.snd.snd.snd.snd.fst + 1),
 ())
else some (PV.tup [PV.int IntKind.i64 0, PV.int IntKind.i64 0, PV.bool false])
def ref19_Meets_L2 (L : Lps) : (List PV × List PV × Int × Int × Unit) → (List PV × List PV × Int × Int × Unit → Option PV) → Option PV := fun s3 rec4 =>
 if decide (s3.snd.snd.snd.fst < (↑s3.fst.length : Int)) = true then
 (idxP s3.fst s3.snd.snd.snd.fst).bind fun p5 =>
 (Ab.asInt IntKind.i64 (cell p5 0)).bind fun n6 =>
 (bif n6 != s3.snd.snd.fst then some true
 else (idxP s3.fst s3.snd.snd.snd.fst).bind fun p7 => (Ab.asBool (cell p7 4)).bind fun b8 => some !b8).bind
 fun r9 =>
 if r9 = true then rec4 (s3.fst, s3.snd.fst, s3.snd.snd.fst, IntKind.i64.wrap (s3.snd.snd.snd.fst + 1), ())
 else L.run ref19_Meets_L1 (s3.fst, s3.snd.fst, s3.snd.snd.fst, s3.snd.snd.snd.fst, 0, ())
else some (PV.tup [PV.int IntKind.i64 0, PV.int IntKind.i64 0, PV.bool false])
def ref19_Meets (L : Lps) (p0 : PV) (p1 : PV) (p2 : PV) : Option PV :=
 (asSl 5 p0).bind fun es0 =>
 (asSl 5 p1).bind fun es1 => (Ab.asInt IntKind.i64 p2).bind fun n2 => L.run (ref19_Meets_L2 L) (es0, es1, n2, 1, ())
def ref19_Meets_M : List PV → Option PV
  | [p0, p1, p2] => ref19_Meets lpS p0 p1 p2
  | _ => none
def ref19_guarantee_L1 : (List PV × Int × Int × PV × PV × PV × Unit) → (List PV × Int × Int × PV × PV × PV × Unit → Option PV) → Option PV := fun s39 rec40 =>
 if decide (s39.snd.snd.fst < s39.snd.fst) = true then
 (idxP s39.fst s39.snd.snd.fst).bind fun p41 =>
 if
 chk (Kd.int IntKind.i64 :: [].append (Kd.int IntKind.i64 :: [].append (Kd.int IntKind.i64 :: [].append [])))
 [cell p41 0, cell p41 1, cell p41 2] =
 true ∧
 chk (Kd.int IntKind.i64 :: [].append (Kd.int IntKind.i64 :: [].append (Kd.int IntKind.i64 :: [].append [])))
 [s39.snd.snd.snd.fst, s39.snd.snd.snd.snd.fst, s39.snd.snd.snd.snd.snd.fst] =
 true then
 if
 peqL [cell p41 0, cell p41 1, cell p41 2]
 [s39.snd.snd.snd.fst, s39.snd.snd.snd.snd.fst, s39.snd.snd.snd.snd.snd.fst] =
 true then
 some (PV.int IntKind.i64 6)
 else
 rec40
 (s39.fst, s39.snd.fst, IntKind.i64.wrap (s39.snd.snd.fst + 1), s39.snd.snd.snd.fst, s39.snd.snd.snd.snd.fst,
 s39.snd.snd.snd.snd.snd.fst, ())
 else none
else some (PV.int IntKind.i64 0)
def ref19_guarantee (L : Lps) (p0 : PV) (p1 : PV) (p2 : PV) (p3 : PV) (p4 : PV) : Option PV :=
 (asSl 3 p0).bind fun es0 =>
 (Ab.asInt IntKind.i64 p1).bind fun n1 =>
 (asSl 5 p2).bind fun es2 =>
 (asSl 4 p3).bind fun es3 =>
 (Ab.asInt IntKind.i64 p4).bind fun n4 =>
 (idxP es0 n1).bind fun p5 =>
 (Ab.asInt IntKind.i64 (cell p5 0)).bind fun n6 =>
 (ref19_in_M [PV.int IntKind.i64 n6, PV.int IntKind.i64 (↑es2.length : Int)]).bind fun r7 =>
 (Ab.asBool r7).bind fun b8 =>
 (bif !b8 then some true
 else
 (Ab.asInt IntKind.i64 (cell p5 1)).bind fun n9 =>
 (ref19_in_M [PV.int IntKind.i64 n9, PV.int IntKind.i64 (↑es2.length : Int)]).bind fun r10 =>
 (Ab.asBool r10).bind fun b11 => some !b11).bind
 fun r12 =>
 (bif r12 then some true
 else
 (Ab.asInt IntKind.i64 (cell p5 0)).bind fun n13 =>
 (Ab.asInt IntKind.i64 (cell p5 1)).bind fun n14 => some (n13 == n14)).bind
 fun r15 =>
 (bif r15 then some true
 else
 (Ab.asInt IntKind.i64 (cell p5 2)).bind fun n16 =>
 (ref19_in_M [PV.int IntKind.i64 n16, PV.int IntKind.i64 n4]).bind fun r17 =>
 (Ab.asBool r17).bind fun b18 => some !b18).bind
 fun r19 =>
 if r19 = true then some (PV.int IntKind.i64 9)
 else
 (Ab.asInt IntKind.i64 (cell p5 0)).bind fun n20 =>
 (ref19_repeated_M [PV.rs 4 es3, PV.int IntKind.i64 n20]).bind fun r21 =>
 (Ab.asBool r21).bind fun b22 =>
 (bif b22 then some true
 else
 (Ab.asInt IntKind.i64 (cell p5 1)).bind fun n23 =>
 (ref19_repeated_M [PV.rs 4 es3, PV.int IntKind.i64 n23]).bind fun r24 =>
 (Ab.asBool r24).bind fun b25 => some b25).bind
 fun r26 =>
 if r26 = true then some (PV.int IntKind.i64 17)
 else
 (Ab.asInt IntKind.i64 (cell p5 0)).bind fun n27 =>
 (idxP es2 n27).bind fun p28 =>
 (asSl 5 (cell p28 4)).bind fun es29 =>
 (Ab.asInt IntKind.i64 (cell p5 1)).bind fun n30 =>
 (idxP es2 n30).bind fun p31 =>
 (asSl 5 (cell p31 4)).bind fun es32 =>
 (Ab.asInt IntKind.i64 (cell p5 2)).bind fun n33 =>
 (ref19_Meets_M
 [PV.rs 5 es29, PV.rs 5 es32, PV.int IntKind.i64 n33]).bind
 fun r34 =>
 (asTup 3 r34).bind fun vs35 =>
 (Ab.asInt IntKind.i64 (vs35.getD 0 PV.bad)).bind fun n36 =>
 (Ab.asInt IntKind.i64 (vs35.getD 1 PV.bad)).bind fun n37 =>
 (Ab.asBool (vs35.getD 2 PV.bad)).bind fun b38 =>
 if (!b38) = true then some (PV.int IntKind.i64 19)
 else
 L.run ref19_guarantee_L1
 (es0, n1, 0, cell p5 0, cell p5 1, cell p5 2, ())
def ref19_guarantee_M : List PV → Option PV
  | [p0, p1, p2, p3, p4] => ref19_guarantee lpS p0 p1 p2 p3 p4
  | _ => none
def ref19_CheckGuarantees_L1 : (List PV × List PV × List PV × Int × Int × Unit) → (List PV × List PV × List PV × Int × Int × Unit → Option PV) → Option PV := fun s4 rec5 =>
 if decide (s4.snd.snd.snd.snd.fst < (↑s4.fst.length : Int)) = true then
 (ref19_guarantee_M
 [PV.rs 3 s4.fst, PV.int IntKind.i64 s4.snd.snd.snd.snd.fst, PV.rs 5 s4.snd.fst, PV.rs 4 s4.snd.snd.fst,
 PV.int IntKind.i64 s4.snd.snd.snd.fst]).bind
 fun r6 =>
 (Ab.asInt IntKind.i64 r6).bind fun n7 =>
 if (n7 != 0) = true then some (PV.tup [PV.int IntKind.i64 s4.snd.snd.snd.snd.fst, PV.int IntKind.i64 n7])
 else
 rec5 (s4.fst, s4.snd.fst, s4.snd.snd.fst, s4.snd.snd.snd.fst, IntKind.i64.wrap (s4.snd.snd.snd.snd.fst + 1), ())
else some (PV.tup [PV.int IntKind.i64 0, PV.int IntKind.i64 0])
def ref19_CheckGuarantees (L : Lps) (p0 : PV) (p1 : PV) (p2 : PV) (p3 : PV) : Option PV :=
 (asSl 3 p0).bind fun es0 =>
 (asSl 5 p1).bind fun es1 =>
 (asSl 4 p2).bind fun es2 =>
 (Ab.asInt IntKind.i64 p3).bind fun n3 =>
 if decide ((↑es0.length : Int) > 128) = true then some (PV.tup [PV.int IntKind.i64 0, PV.int IntKind.i64 5])
 else L.run ref19_CheckGuarantees_L1 (es0, es1, es2, n3, 0, ())
def ref19_CheckGuarantees_M : List PV → Option PV
  | [p0, p1, p2, p3] => ref19_CheckGuarantees lpS p0 p1 p2 p3
  | _ => none
def ref20_valid_L1 (rec3 : List PV × Int × Int × Unit → Option PV) : (List PV × Int × Int × Int × PV × PV × PV × PV × Unit) → (List PV × Int × Int × Int × PV × PV × PV × PV × Unit → Option PV) → Option PV := fun s18 rec19 =>
 if decide (s18.snd.snd.snd.fst < s18.snd.snd.fst) = true then
 (idxP s18.fst s18.snd.snd.snd.fst).bind fun p20 =>
 (Ab.asInt IntKind.i64 (cell p20 0)).bind fun n21 =>
 (Ab.asInt IntKind.i64 s18.snd.snd.snd.snd.fst).bind fun n22 =>
 (bif n21 == n22 then
 (idxP s18.fst s18.snd.snd.snd.fst).bind fun p23 =>
 (Ab.asInt IntKind.i64 (cell p23 1)).bind fun n24 =>
 (Ab.asInt IntKind.i64 s18.snd.snd.snd.snd.snd.fst).bind fun n25 => some (n24 == n25)
 else some false).bind
 fun r26 =>
 (bif r26 then
 (idxP s18.fst s18.snd.snd.snd.fst).bind fun p27 =>
 (Ab.asBool (cell p27 3)).bind fun b28 =>
 (Ab.asBool s18.snd.snd.snd.snd.snd.snd.snd.fst).bind fun b29 => some (b28 == b29)
 else some false).bind
 fun r30 =>
 if r30 = true then some (PV.tup [PV.int IntKind.i64 s18.snd.snd.fst, PV.int IntKind.i64 6])
 else
 rec19
 (s18.fst, s18.snd.fst, s18.snd.snd.fst, IntKind.i64.wrap (s18.snd.snd.snd.fst + 1),
 s18.snd.snd.snd.snd.fst, s18.snd.snd.snd.snd.snd.fst, s18.snd.snd.snd.snd.snd.snd.fst,
 s18.snd.snd.snd.snd.snd.snd.snd.fst, ())
else rec3 (s18.fst, s18.snd.fst, IntKind.i64.wrap (s18.snd.snd.fst + 1), ())
def ref20_valid_L2 (L : Lps) : (List PV × Int × Int × Unit) → (List PV × Int × Int × Unit → Option PV) → Option PV := fun s2 rec3 =>
 if decide (s2.snd.snd.fst < (↑s2.fst.length : Int)) = true then
 (idxP s2.fst s2.snd.snd.fst).bind fun p4 =>
 (Ab.asInt IntKind.i64 (cell p4 0)).bind fun n5 =>
 (bif decide (n5 < 0) then some true
 else (Ab.asInt IntKind.i64 (cell p4 0)).bind fun n6 => some (decide (n6 ≥ s2.snd.fst))).bind
 fun r7 =>
 (bif r7 then some true else (Ab.asInt IntKind.i64 (cell p4 1)).bind fun n8 => some (decide (n8 < 0))).bind
 fun r9 =>
 (bif r9 then some true
 else (Ab.asInt IntKind.i64 (cell p4 1)).bind fun n10 => some (decide (n10 ≥ s2.snd.fst))).bind
 fun r11 =>
 (bif r11 then some true
 else
 (Ab.asInt IntKind.i64 (cell p4 0)).bind fun n12 =>
 (Ab.asInt IntKind.i64 (cell p4 1)).bind fun n13 => some (n12 == n13)).bind
 fun r14 =>
 if r14 = true then some (PV.tup [PV.int IntKind.i64 s2.snd.snd.fst, PV.int IntKind.i64 9])
 else
 (Ab.asInt IntKind.i64 (cell p4 2)).bind fun n15 =>
 (bif decide (n15 < 1) then some true
 else (Ab.asInt IntKind.i64 (cell p4 2)).bind fun n16 => some (decide (n16 > 14400))).bind
 fun r17 =>
 if r17 = true then some (PV.tup [PV.int IntKind.i64 s2.snd.snd.fst, PV.int IntKind.i64 2])
 else
 L.run (ref20_valid_L1 rec3)
 (s2.fst, s2.snd.fst, s2.snd.snd.fst, 0, cell p4 0, cell p4 1, cell p4 2, cell p4 3, ())
else some (PV.tup [PV.int IntKind.i64 0, PV.int IntKind.i64 0])
def ref20_valid (L : Lps) (p0 : PV) (p1 : PV) : Option PV :=
 (asSl 4 p0).bind fun es0 => (Ab.asInt IntKind.i64 p1).bind fun n1 => L.run (ref20_valid_L2 L) (es0, n1, 0, ())
def ref20_valid_M : List PV → Option PV
  | [p0, p1] => ref20_valid lpS p0 p1
  | _ => none
def ref20_Check (L : Lps) (p0 : PV) (p1 : PV) : Option PV :=
 (asSl 4 p0).bind fun es0 =>
 (Ab.asInt IntKind.i64 p1).bind fun n1 =>
 if decide ((↑es0.length : Int) > 512) = true then some (PV.tup [PV.int IntKind.i64 0, PV.int IntKind.i64 5])
 else
 (ref20_valid_M [PV.rs 4 es0, PV.int IntKind.i64 n1]).bind fun r2 =>
 (asTup 2 r2).bind fun vs3 =>
 (Ab.asInt IntKind.i64 (vs3.getD 0 PV.bad)).bind fun n4 =>
 (Ab.asInt IntKind.i64 (vs3.getD 1 PV.bad)).bind fun n5 =>
 some (PV.tup [PV.int IntKind.i64 n4, PV.int IntKind.i64 n5])
def ref20_Check_M : List PV → Option PV
  | [p0, p1] => ref20_Check lpS p0 p1
  | _ => none
def ref21_within (L : Lps) (p0 : PV) (p1 : PV) (p2 : PV) : Option PV :=
 (Ab.asInt IntKind.i64 p0).bind fun n0 =>
 (Ab.asInt IntKind.i64 p1).bind fun n1 =>
 (Ab.asInt IntKind.i64 p2).bind fun n2 =>
 (bif decide (n0 ≥ n1) then some (decide (n0 ≤ n2)) else some false).bind fun r3 => some (PV.bool r3)
def ref21_within_M : List PV → Option PV
  | [p0, p1, p2] => ref21_within lpS p0 p1 p2
  | _ => none
def ref21_Right (L : Lps) (p0 : PV) : Option PV :=
 (Ab.asAgg 6 p0).bind fun x0 =>
 (asStr (cell p0 0)).bind fun s1 =>
 (Ab.asInt IntKind.i64 (cell p0 1)).bind fun n2 =>
 (Ab.asInt IntKind.i64 (cell p0 2)).bind fun n3 =>
 (Ab.asInt IntKind.i64 (cell p0 3)).bind fun n4 =>
 (Ab.asInt IntKind.i64 (cell p0 4)).bind fun n5 =>
 (Ab.asInt IntKind.i64 (cell p0 5)).bind fun n6 =>
 (ref21_within_M [PV.int IntKind.i64 n2, PV.int IntKind.i64 0, PV.int IntKind.i64 1000000]).bind fun r7 =>
 (Ab.asBool r7).bind fun b8 =>
 (bif b8 then
 (ref21_within_M [PV.int IntKind.i64 n3, PV.int IntKind.i64 1, PV.int IntKind.i64 8]).bind
 fun r9 => (Ab.asBool r9).bind fun b10 => some b10
 else some false).bind
 fun r11 =>
 (bif r11 then
 (ref21_within_M [PV.int IntKind.i64 n4, PV.int IntKind.i64 1, PV.int IntKind.i64 16]).bind
 fun r12 => (Ab.asBool r12).bind fun b13 => some b13
 else some false).bind
 fun r14 =>
 (bif r14 then
 (ref21_within_M
 [PV.int IntKind.i64 n5, PV.int IntKind.i64 0, PV.int IntKind.i64 86400]).bind
 fun r15 => (Ab.asBool r15).bind fun b16 => some b16
 else some false).bind
 fun r17 =>
 (bif r17 then
 (ref21_within_M
 [PV.int IntKind.i64 n6, PV.int IntKind.i64 1, PV.int IntKind.i64 255]).bind
 fun r18 => (Ab.asBool r18).bind fun b19 => some b19
 else some false).bind
 fun r20 => some (PV.bool r20)
def ref21_Right_M : List PV → Option PV
  | [p0] => ref21_Right lpS p0
  | _ => none
def ref21_Check_L1 (rec14 : List PV × Int × Unit → Option PV) : (List PV × Int × Int × Unit) → (List PV × Int × Int × Unit → Option PV) → Option PV := fun s19 rec20 =>
 if decide (s19.snd.snd.fst < s19.snd.fst) = true then
 (idxP s19.fst s19.snd.snd.fst).bind fun p21 =>
 (asStr (cell p21 0)).bind fun s22 =>
 (idxP s19.fst s19.snd.fst).bind fun p23 =>
 (asStr (cell p23 0)).bind fun s24 =>
 if (s22 == s24) = true then some (PV.tup [PV.int IntKind.i64 s19.snd.fst, PV.int IntKind.i64 6])
 else rec20 (s19.fst, s19.snd.fst, IntKind.i64.wrap (s19.snd.snd.fst + 1), ())
else
 (idxP s19.fst s19.snd.fst).bind fun p25 =>
 (ref21_Right_M [PV.agg [cell p25 0, cell p25 1, cell p25 2, cell p25 3, cell p25 4, cell p25 5]]).bind fun r26 =>
 (Ab.asBool r26).bind fun b27 =>
 if (!b27) = true then some (PV.tup [PV.int IntKind.i64 s19.snd.fst, PV.int IntKind.i64 2])
 else rec14 (s19.fst, IntKind.i64.wrap (s19.snd.fst + 1), ())
def ref21_Check_L2 (L : Lps) : (List PV × Int × Unit) → (List PV × Int × Unit → Option PV) → Option PV := fun s13 rec14 =>
 if decide (s13.snd.fst < (↑s13.fst.length : Int)) = true then
 (idxP s13.fst s13.snd.fst).bind fun p15 =>
 (asStr (cell p15 0)).bind fun s16 =>
 (ref15_Name_M [PV.str s16]).bind fun r17 =>
 (Ab.asBool r17).bind fun b18 =>
 if (!b18) = true then some (PV.tup [PV.int IntKind.i64 s13.snd.fst, PV.int IntKind.i64 12])
 else L.run (ref21_Check_L1 rec14) (s13.fst, s13.snd.fst, 0, ())
else some (PV.tup [PV.int IntKind.i64 0, PV.int IntKind.i64 0])
def ref21_Check (L : Lps) (p0 : PV) : Option PV :=
 (Ab.asAgg 4 p0).bind fun x0 =>
 (asSl 6 (cell p0 0)).bind fun es1 =>
 (Ab.asInt IntKind.i64 (cell p0 1)).bind fun n2 =>
 (Ab.asInt IntKind.i64 (cell p0 2)).bind fun n3 =>
 (Ab.asInt IntKind.i64 (cell p0 3)).bind fun n4 =>
 (ref21_within_M [PV.int IntKind.i64 n2, PV.int IntKind.i64 0, PV.int IntKind.i64 1000000]).bind fun r5 =>
 (Ab.asBool r5).bind fun b6 =>
 (bif !b6 then some true
 else
 (ref21_within_M [PV.int IntKind.i64 n3, PV.int IntKind.i64 0, PV.int IntKind.i64 86400]).bind
 fun r7 => (Ab.asBool r7).bind fun b8 => some !b8).bind
 fun r9 =>
 (bif r9 then some true
 else
 (ref21_within_M [PV.int IntKind.i64 n4, PV.int IntKind.i64 0, PV.int IntKind.i64 1000000]).bind
 fun r10 => (Ab.asBool r10).bind fun b11 => some !b11).bind
 fun r12 =>
 if r12 = true then some (PV.tup [PV.int IntKind.i64 (-1), PV.int IntKind.i64 2])
 else
 if decide ((↑es1.length : Int) > 16) = true then
 some (PV.tup [PV.int IntKind.i64 0, PV.int IntKind.i64 5])
 else L.run (ref21_Check_L2 L) (es1, 0, ())
def ref21_Check_M : List PV → Option PV
  | [p0] => ref21_Check lpS p0
  | _ => none
def ref22_part (L : Lps) (p0 : PV) (p1 : PV) : Option PV :=
 (Ab.asAgg 13 p0).bind fun x0 =>
 (asSl 4 (cell p0 0)).bind fun es1 =>
 (asSl 3 (cell p0 1)).bind fun es2 =>
 (asSl 10 (cell p0 2)).bind fun es3 =>
 (asSl 3 (cell p0 3)).bind fun es4 =>
 (asSl 5 (cell p0 4)).bind fun es5 =>
 (asSl 4 (cell p0 5)).bind fun es6 =>
 (asSl 2 (cell p0 6)).bind fun es7 =>
 (asSl 3 (cell p0 7)).bind fun es8 =>
 (asSl 4 (cell p0 8)).bind fun es9 =>
 (asSl 6 (cell p0 9)).bind fun es10 =>
 (Ab.asInt IntKind.i64 (cell p0 10)).bind fun n11 =>
 (Ab.asInt IntKind.i64 (cell p0 11)).bind fun n12 =>
 (Ab.asInt IntKind.i64 (cell p0 12)).bind fun n13 =>
 (Ab.asInt IntKind.i64 p1).bind fun n14 =>
 if (n14 == 0) = true then
 (ref13_Check_M [PV.rs 4 es1]).bind fun r15 =>
 (asTup 2 r15).bind fun vs16 =>
 (Ab.asInt IntKind.i64 (vs16.getD 0 PV.bad)).bind fun n17 =>
 (Ab.asInt IntKind.i64 (vs16.getD 1 PV.bad)).bind fun n18 =>
 some (PV.tup [PV.int IntKind.i64 n17, PV.int IntKind.i64 n18])
 else
 if (n14 == 1) = true then
 (ref15_Check_M [PV.rs 3 es2]).bind fun r19 =>
 (asTup 2 r19).bind fun vs20 =>
 (Ab.asInt IntKind.i64 (vs20.getD 0 PV.bad)).bind fun n21 =>
 (Ab.asInt IntKind.i64 (vs20.getD 1 PV.bad)).bind fun n22 =>
 some (PV.tup [PV.int IntKind.i64 n21, PV.int IntKind.i64 n22])
 else
 if (n14 == 2) = true then
 (ref14_Check_M [PV.rs 10 es3]).bind fun r23 =>
 (asTup 2 r23).bind fun vs24 =>
 (Ab.asInt IntKind.i64 (vs24.getD 0 PV.bad)).bind fun n25 =>
 (Ab.asInt IntKind.i64 (vs24.getD 1 PV.bad)).bind fun n26 =>
 some (PV.tup [PV.int IntKind.i64 n25, PV.int IntKind.i64 n26])
 else
 if (n14 == 3) = true then
 (ref14_CheckExceptions_M
 [PV.rs 3 es4, PV.int IntKind.i64 (↑es3.length : Int)]).bind
 fun r27 =>
 (asTup 2 r27).bind fun vs28 =>
 (Ab.asInt IntKind.i64 (vs28.getD 0 PV.bad)).bind fun n29 =>
 (Ab.asInt IntKind.i64 (vs28.getD 1 PV.bad)).bind fun n30 =>
 some (PV.tup [PV.int IntKind.i64 n29, PV.int IntKind.i64 n30])
 else
 if (n14 == 4) = true then
 (ref17_Check_M
 [PV.rs 5 es5, PV.int IntKind.i64 (↑es1.length : Int),
 PV.int IntKind.i64 (↑es2.length : Int),
 PV.int IntKind.i64 (↑es3.length : Int)]).bind
 fun r31 =>
 (asTup 2 r31).bind fun vs32 =>
 (Ab.asInt IntKind.i64 (vs32.getD 0 PV.bad)).bind fun n33 =>
 (Ab.asInt IntKind.i64 (vs32.getD 1 PV.bad)).bind fun n34 =>
 some (PV.tup [PV.int IntKind.i64 n33, PV.int IntKind.i64 n34])
 else
 if (n14 == 5) = true then
 (ref18_Check_M [PV.rs 4 es6, PV.rs 5 es5]).bind fun r35 =>
 (asTup 2 r35).bind fun vs36 =>
 (Ab.asInt IntKind.i64 (vs36.getD 0 PV.bad)).bind fun n37 =>
 (Ab.asInt IntKind.i64 (vs36.getD 1 PV.bad)).bind fun n38 =>
 some (PV.tup [PV.int IntKind.i64 n37, PV.int IntKind.i64 n38])
 else
 if (n14 == 6) = true then
 (ref19_Check_M [PV.rs 2 es7, PV.rs 5 es5, PV.rs 4 es6]).bind fun r39 =>
 (asTup 2 r39).bind fun vs40 =>
 (Ab.asInt IntKind.i64 (vs40.getD 0 PV.bad)).bind fun n41 =>
 (Ab.asInt IntKind.i64 (vs40.getD 1 PV.bad)).bind fun n42 =>
 some (PV.tup [PV.int IntKind.i64 n41, PV.int IntKind.i64 n42])
 else
 if (n14 == 7) = true then
 (ref19_CheckGuarantees_M
 [PV.rs 3 es8, PV.rs 5 es5, PV.rs 4 es6,
 PV.int IntKind.i64 (↑es1.length : Int)]).bind
 fun r43 =>
 (asTup 2 r43).bind fun vs44 =>
 (Ab.asInt IntKind.i64 (vs44.getD 0 PV.bad)).bind fun n45 =>
 (Ab.asInt IntKind.i64 (vs44.getD 1 PV.bad)).bind fun n46 =>
 some (PV.tup [PV.int IntKind.i64 n45, PV.int IntKind.i64 n46])
 else
 if (n14 == 8) = true then
 (ref20_Check_M
 [PV.rs 4 es9, PV.int IntKind.i64 (↑es1.length : Int)]).bind
 fun r47 =>
 (asTup 2 r47).bind fun vs48 =>
 (Ab.asInt IntKind.i64 (vs48.getD 0 PV.bad)).bind fun n49 =>
 (Ab.asInt IntKind.i64 (vs48.getD 1 PV.bad)).bind fun n50 =>
 some (PV.tup [PV.int IntKind.i64 n49, PV.int IntKind.i64 n50])
 else
 (ref21_Check_M
 [PV.agg
 [PV.rs 6 es10, PV.int IntKind.i64 n11, PV.int IntKind.i64 n12,
 PV.int IntKind.i64 n13]]).bind
 fun r51 =>
 (asTup 2 r51).bind fun vs52 =>
 (Ab.asInt IntKind.i64 (vs52.getD 0 PV.bad)).bind fun n53 =>
 (Ab.asInt IntKind.i64 (vs52.getD 1 PV.bad)).bind fun n54 =>
 some (PV.tup [PV.int IntKind.i64 n53, PV.int IntKind.i64 n54])
def ref22_part_M : List PV → Option PV
  | [p0, p1] => ref22_part lpS p0 p1
  | _ => none
def ref22_Check_L1 : (Int ×
 List PV ×
 List PV × List PV × List PV × List PV × List PV × List PV × List PV × List PV × List PV × Int × Int × Int × Unit) → (Int ×
 List PV ×
 List PV ×
 List PV × List PV × List PV × List PV × List PV × List PV × List PV × List PV × Int × Int × Int × Unit →
 Option PV) → Option PV := fun s14 rec15 =>
 if decide (s14.fst < 10) = true then
 (ref22_part_M
 [PV.agg
 [PV.rs 4 s14.snd.fst, PV.rs 3 s14.snd.snd.fst, PV.rs 10 s14.snd.snd.snd.fst,
 PV.rs 3 s14.snd.snd.snd.snd.fst, PV.rs 5 s14.snd.snd.snd.snd.snd.fst,
 PV.rs 4 s14.snd.snd.snd.snd.snd.snd.fst, PV.rs 2 s14.snd.snd.snd.snd.snd.snd.snd.fst,
 PV.rs 3 s14.snd.snd.snd.snd.snd.snd.snd.snd.fst, PV.rs 4 s14.snd.snd.snd.snd.snd.snd.snd.snd.snd.fst,
 PV.rs 6 s14.snd.snd.snd.snd.snd.snd.snd.snd.snd.snd.fst,
 PV.int IntKind.i64 s14.snd.snd.snd.snd.snd.snd.snd.snd.snd.snd.snd.fst,
 PV.int IntKind.i64 s14.snd.snd.snd.snd.snd.snd.snd.snd.snd.snd.snd.snd.fst,
 PV.int IntKind.i64 s14.snd.snd.snd.snd.snd.snd.snd.snd.snd.snd.snd.snd.snd.fst],
 PV.int IntKind.i64 s14.fst]).bind
 fun r16 =>
 (asTup 2 r16).bind fun vs17 =>
 (Ab.asInt IntKind.i64 (vs17.getD 0 PV.bad)).bind fun n18 =>
 (Ab.asInt IntKind.i64 (vs17.getD 1 PV.bad)).bind fun n19 =>
 if (n19 != 0) = true then
 some (PV.tup [PV.int IntKind.i64 s14.fst, PV.int IntKind.i64 n18, PV.int IntKind.i64 n19])
 else
 rec15
 (IntKind.i64.wrap (s14.fst + 1), s14.snd.fst, s14.snd.snd.fst, s14.snd.snd.snd.fst,
 s14.snd.snd.snd.snd.fst, s14.snd.snd.snd.snd.snd.fst, s14.snd.snd.snd.snd.snd.snd.fst,
 s14.snd.snd.snd.snd.snd.snd.snd.fst, s14.snd.snd.snd.snd.snd.snd.snd.snd.fst,
 s14.snd.snd.snd.snd.snd.snd.snd.snd.snd.fst, s14.snd.snd.snd.snd.snd.snd.snd.snd.snd.snd.fst,
 s14.snd.snd.snd.snd.snd.snd.snd.snd.snd.snd.snd.fst,
 s14.snd.snd.snd.snd.snd.snd.snd.snd.snd.snd.snd.snd.fst,
 s14.snd.snd.snd.snd.snd.snd.snd.snd.snd.snd.snd.snd.snd.fst, ())
else some (PV.tup [PV.int IntKind.i64 0, PV.int IntKind.i64 0, PV.int IntKind.i64 0])
def ref22_Check (L : Lps) (p0 : PV) : Option PV :=
 (Ab.asAgg 13 p0).bind fun x0 =>
 (asSl 4 (cell p0 0)).bind fun es1 =>
 (asSl 3 (cell p0 1)).bind fun es2 =>
 (asSl 10 (cell p0 2)).bind fun es3 =>
 (asSl 3 (cell p0 3)).bind fun es4 =>
 (asSl 5 (cell p0 4)).bind fun es5 =>
 (asSl 4 (cell p0 5)).bind fun es6 =>
 (asSl 2 (cell p0 6)).bind fun es7 =>
 (asSl 3 (cell p0 7)).bind fun es8 =>
 (asSl 4 (cell p0 8)).bind fun es9 =>
 (asSl 6 (cell p0 9)).bind fun es10 =>
 (Ab.asInt IntKind.i64 (cell p0 10)).bind fun n11 =>
 (Ab.asInt IntKind.i64 (cell p0 11)).bind fun n12 =>
 (Ab.asInt IntKind.i64 (cell p0 12)).bind fun n13 =>
 L.run ref22_Check_L1
 (0, es1, es2, es3, es4, es5, es6, es7, es8, es9, es10, n11, n12, n13, ())
def ref22_Check_M : List PV → Option PV
  | [p0] => ref22_Check lpS p0
  | _ => none
def ref22_Few_L1 : (Int ×
 List PV ×
 List PV × List PV × List PV × List PV × List PV × List PV × List PV × List PV × List PV × Int × Int × Int × Unit) → (Int ×
 List PV ×
 List PV ×
 List PV × List PV × List PV × List PV × List PV × List PV × List PV × List PV × Int × Int × Int × Unit →
 Option PV) → Option PV := fun s23 rec24 =>
 if decide (s23.fst < (↑s23.snd.snd.snd.snd.snd.fst.length : Int)) = true then
 (idxP s23.snd.snd.snd.snd.snd.fst s23.fst).bind fun p25 =>
 (asSl 5 (cell p25 4)).bind fun es26 =>
 if decide ((↑es26.length : Int) > 40) = true then some (PV.bool false)
 else
 rec24
 (IntKind.i64.wrap (s23.fst + 1), s23.snd.fst, s23.snd.snd.fst, s23.snd.snd.snd.fst, s23.snd.snd.snd.snd.fst,
 s23.snd.snd.snd.snd.snd.fst, s23.snd.snd.snd.snd.snd.snd.fst, s23.snd.snd.snd.snd.snd.snd.snd.fst,
 s23.snd.snd.snd.snd.snd.snd.snd.snd.fst, s23.snd.snd.snd.snd.snd.snd.snd.snd.snd.fst,
 s23.snd.snd.snd.snd.snd.snd.snd.snd.snd.snd.fst, s23.snd.snd.snd.snd.snd.snd.snd.snd.snd.snd.snd.fst,
 s23.snd.snd.snd.snd.snd.snd.snd.snd.snd.snd.snd.snd.fst,
 s23.snd.snd.snd.snd.snd.snd.snd.snd.snd.snd.snd.snd.snd.fst, ())
else some (PV.bool true)
def ref22_Few (L : Lps) (p0 : PV) : Option PV :=
 (Ab.asAgg 13 p0).bind fun x0 =>
 (asSl 4 (cell p0 0)).bind fun es1 =>
 (asSl 3 (cell p0 1)).bind fun es2 =>
 (asSl 10 (cell p0 2)).bind fun es3 =>
 (asSl 3 (cell p0 3)).bind fun es4 =>
 (asSl 5 (cell p0 4)).bind fun es5 =>
 (asSl 4 (cell p0 5)).bind fun es6 =>
 (asSl 2 (cell p0 6)).bind fun es7 =>
 (asSl 3 (cell p0 7)).bind fun es8 =>
 (asSl 4 (cell p0 8)).bind fun es9 =>
 (asSl 6 (cell p0 9)).bind fun es10 =>
 (Ab.asInt IntKind.i64 (cell p0 10)).bind fun n11 =>
 (Ab.asInt IntKind.i64 (cell p0 11)).bind fun n12 =>
 (Ab.asInt IntKind.i64 (cell p0 12)).bind fun n13 =>
 (bif decide ((↑es1.length : Int) > 70) then some true
 else some (decide ((↑es2.length : Int) > 70))).bind
 fun r14 =>
 (bif r14 then some true else some (decide ((↑es3.length : Int) > 70))).bind fun r15 =>
 (bif r15 then some true else some (decide ((↑es4.length : Int) > 70))).bind fun r16 =>
 (bif r16 then some true else some (decide ((↑es5.length : Int) > 40))).bind fun r17 =>
 (bif r17 then some true else some (decide ((↑es6.length : Int) > 70))).bind
 fun r18 =>
 (bif r18 then some true else some (decide ((↑es7.length : Int) > 140))).bind
 fun r19 =>
 (bif r19 then some true else some (decide ((↑es8.length : Int) > 140))).bind
 fun r20 =>
 (bif r20 then some true else some (decide ((↑es9.length : Int) > 70))).bind
 fun r21 =>
 (bif r21 then some true else some (decide ((↑es10.length : Int) > 20))).bind
 fun r22 =>
 if r22 = true then some (PV.bool false)
 else
 L.run ref22_Few_L1
 (0, es1, es2, es3, es4, es5, es6, es7, es8, es9, es10, n11, n12, n13,
 ())
def ref22_Few_M : List PV → Option PV
  | [p0] => ref22_Few lpS p0
  | _ => none
def law22_TimetableChecks (L : Lps) (p0 : PV) : Option PV :=
 (Ab.asAgg 13 p0).bind fun x0 =>
 (asSl 4 (cell p0 0)).bind fun es1 =>
 (asSl 3 (cell p0 1)).bind fun es2 =>
 (asSl 10 (cell p0 2)).bind fun es3 =>
 (asSl 3 (cell p0 3)).bind fun es4 =>
 (asSl 5 (cell p0 4)).bind fun es5 =>
 (asSl 4 (cell p0 5)).bind fun es6 =>
 (asSl 2 (cell p0 6)).bind fun es7 =>
 (asSl 3 (cell p0 7)).bind fun es8 =>
 (asSl 4 (cell p0 8)).bind fun es9 =>
 (asSl 6 (cell p0 9)).bind fun es10 =>
 (Ab.asInt IntKind.i64 (cell p0 10)).bind fun n11 =>
 (Ab.asInt IntKind.i64 (cell p0 11)).bind fun n12 =>
 (Ab.asInt IntKind.i64 (cell p0 12)).bind fun n13 =>
 (ref22_Few_M
 [PV.agg
 [PV.rs 4 es1, PV.rs 3 es2, PV.rs 10 es3, PV.rs 3 es4, PV.rs 5 es5, PV.rs 4 es6,
 PV.rs 2 es7, PV.rs 3 es8, PV.rs 4 es9, PV.rs 6 es10, PV.int IntKind.i64 n11,
 PV.int IntKind.i64 n12, PV.int IntKind.i64 n13]]).bind
 fun r14 =>
 (Ab.asBool r14).bind fun b15 =>
 if (!b15) = true then
 (law22_exampleHolds_M []).bind fun r16 =>
 (Ab.asBool r16).bind fun b17 => some (PV.bool b17)
 else
 (timetable_Check_M
 [PV.agg
 [PV.rs 4 es1, PV.rs 3 es2, PV.rs 10 es3, PV.rs 3 es4, PV.rs 5 es5,
 PV.rs 4 es6, PV.rs 2 es7, PV.rs 3 es8, PV.rs 4 es9, PV.rs 6 es10,
 PV.int IntKind.i64 n11, PV.int IntKind.i64 n12,
 PV.int IntKind.i64 n13]]).bind
 fun r18 =>
 (asTup 3 r18).bind fun vs19 =>
 (Ab.asInt IntKind.i64 (vs19.getD 0 PV.bad)).bind fun n20 =>
 (Ab.asInt IntKind.i64 (vs19.getD 1 PV.bad)).bind fun n21 =>
 (Ab.asInt IntKind.i64 (vs19.getD 2 PV.bad)).bind fun n22 =>
 (ref22_Check_M
 [PV.agg
 [PV.rs 4 es1, PV.rs 3 es2, PV.rs 10 es3, PV.rs 3 es4, PV.rs 5 es5,
 PV.rs 4 es6, PV.rs 2 es7, PV.rs 3 es8, PV.rs 4 es9,
 PV.rs 6 es10, PV.int IntKind.i64 n11, PV.int IntKind.i64 n12,
 PV.int IntKind.i64 n13]]).bind
 fun r23 =>
 (asTup 3 r23).bind fun vs24 =>
 (Ab.asInt IntKind.i64 (vs24.getD 0 PV.bad)).bind fun n25 =>
 (Ab.asInt IntKind.i64 (vs24.getD 1 PV.bad)).bind fun n26 =>
 (Ab.asInt IntKind.i64 (vs24.getD 2 PV.bad)).bind fun n27 =>
 (bif n20 == n25 then some (n21 == n26) else some false).bind
 fun r28 =>
 (bif r28 then some (n22 == n27) else some false).bind fun r29 =>
 (bif r29 then
 (law22_exampleHolds_M []).bind fun r30 =>
 (Ab.asBool r30).bind fun b31 => some b31
 else some false).bind
 fun r32 => some (PV.bool r32)
def law22_TimetableChecks_M : List PV → Option PV
  | [p0] => law22_TimetableChecks lpS p0
  | _ => none
def ref22_Sizes_L1 : (Int ×
 Int ×
 List PV ×
 List PV ×
 List PV ×
 List PV ×
 List PV ×
 List PV ×
 List PV ×
 List PV ×
 List PV ×
 List PV ×
 Int × Int × Int × Int × Int × Int × Int × Int × Int × Int × Int × Int × Int × Int × Unit) → (Int ×
 Int ×
 List PV ×
 List PV ×
 List PV ×
 List PV ×
 List PV ×
 List PV ×
 List PV ×
 List PV ×
 List PV ×
 List PV ×
 Int × Int × Int × Int × Int × Int × Int × Int × Int × Int × Int × Int × Int × Int × Unit →
 Option PV) → Option PV := fun s14 rec15 =>
 if decide (s14.snd.fst < (↑s14.snd.snd.snd.snd.snd.snd.fst.length : Int)) = true then
 (idxP s14.snd.snd.snd.snd.snd.snd.fst s14.snd.fst).bind fun p16 =>
 (asSl 5 (cell p16 4)).bind fun es17 =>
 rec15
 (IntKind.i64.wrap (s14.fst + (↑es17.length : Int)), IntKind.i64.wrap (s14.snd.fst + 1), s14.snd.snd.fst,
 s14.snd.snd.snd.fst, s14.snd.snd.snd.snd.fst, s14.snd.snd.snd.snd.snd.fst, s14.snd.snd.snd.snd.snd.snd.fst,
 s14.snd.snd.snd.snd.snd.snd.snd.fst, s14.snd.snd.snd.snd.snd.snd.snd.snd.fst,
 s14.snd.snd.snd.snd.snd.snd.snd.snd.snd.fst, s14.snd.snd.snd.snd.snd.snd.snd.snd.snd.snd.fst,
 s14.snd.snd.snd.snd.snd.snd.snd.snd.snd.snd.snd.fst, s14.snd.snd.snd.snd.snd.snd.snd.snd.snd.snd.snd.snd.fst,
 s14.snd.snd.snd.snd.snd.snd.snd.snd.snd.snd.snd.snd.snd.fst,
 s14.snd.snd.snd.snd.snd.snd.snd.snd.snd.snd.snd.snd.snd.snd.fst,
 s14.snd.snd.snd.snd.snd.snd.snd.snd.snd.snd.snd.snd.snd.snd.snd.fst,
 s14.snd.snd.snd.snd.snd.snd.snd.snd.snd.snd.snd.snd.snd.snd.snd.snd.fst,
 s14.snd.snd.snd.snd.snd.snd.snd.snd.snd.snd.snd.snd.snd.snd.snd.snd.snd.fst,
 s14.snd.snd.snd.snd.snd.snd.snd.snd.snd.snd.snd.snd.snd.snd.snd.snd.snd.snd.fst,
 s14.snd.snd.snd.snd.snd.snd.snd.snd.snd.snd.snd.snd.snd.snd.snd.snd.snd.snd.snd.fst,
 s14.snd.snd.snd.snd.snd.snd.snd.snd.snd.snd.snd.snd.snd.snd.snd.snd.snd.snd.snd.snd.fst,
 s14.snd.snd.snd.snd.snd.snd.snd.snd.snd.snd.snd.snd.snd.snd.snd.snd.snd.snd.snd.snd.snd.fst,
 s14.snd.snd.snd.snd.snd.snd.snd.snd.snd.snd.snd.snd.snd.snd.snd.snd.snd.snd.snd.snd.snd.snd.fst,
 s14.snd.snd.snd.snd.snd.snd.snd.snd.snd.snd.snd.snd.snd.snd.snd.snd.snd.snd.snd.snd.snd.snd.snd.fst,
 s14.snd.snd.snd.snd.snd.snd.snd.snd.snd.snd.snd.snd.snd.snd.snd.snd.snd.snd.snd.snd.snd.snd.snd.snd.fst,
 s14.snd.snd.snd.snd.snd.snd.snd.snd.snd.snd.snd.snd.snd.snd.snd.snd.snd.snd.snd.snd.snd.snd.snd.snd.snd.fst,
 ())
else
 some
 (PV.agg
 [PV.int IntKind.i64 (↑s14.snd.snd.fst.length : Int), PV.int IntKind.i64 (↑s14.snd.snd.snd.fst.length : Int),
 PV.int IntKind.i64 (↑s14.snd.snd.snd.snd.fst.length : Int),
 PV.int IntKind.i64 (↑s14.snd.snd.snd.snd.snd.fst.length : Int),
 PV.int IntKind.i64 (↑s14.snd.snd.snd.snd.snd.snd.fst.length : Int), PV.int IntKind.i64 s14.fst,
 PV.int IntKind.i64 (↑s14.snd.snd.snd.snd.snd.snd.snd.fst.length : Int),
 PV.int IntKind.i64 (↑s14.snd.snd.snd.snd.snd.snd.snd.snd.fst.length : Int),
 PV.int IntKind.i64 (↑s14.snd.snd.snd.snd.snd.snd.snd.snd.snd.fst.length : Int),
 PV.int IntKind.i64 (↑s14.snd.snd.snd.snd.snd.snd.snd.snd.snd.snd.fst.length : Int),
 PV.int IntKind.i64 (↑s14.snd.snd.snd.snd.snd.snd.snd.snd.snd.snd.snd.fst.length : Int)])
def ref22_Sizes (L : Lps) (p0 : PV) : Option PV :=
 (Ab.asAgg 13 p0).bind fun x0 =>
 (asSl 4 (cell p0 0)).bind fun es1 =>
 (asSl 3 (cell p0 1)).bind fun es2 =>
 (asSl 10 (cell p0 2)).bind fun es3 =>
 (asSl 3 (cell p0 3)).bind fun es4 =>
 (asSl 5 (cell p0 4)).bind fun es5 =>
 (asSl 4 (cell p0 5)).bind fun es6 =>
 (asSl 2 (cell p0 6)).bind fun es7 =>
 (asSl 3 (cell p0 7)).bind fun es8 =>
 (asSl 4 (cell p0 8)).bind fun es9 =>
 (asSl 6 (cell p0 9)).bind fun es10 =>
 (Ab.asInt IntKind.i64 (cell p0 10)).bind fun n11 =>
 (Ab.asInt IntKind.i64 (cell p0 11)).bind fun n12 =>
 (Ab.asInt IntKind.i64 (cell p0 12)).bind fun n13 =>
 L.run ref22_Sizes_L1
 (0, 0, es1, es2, es3, es4, es5, es6, es7, es8, es9, es10, n11, n12, n13, 0, 0, 0, 0, 0, 0,
 0, 0, 0, 0, 0, ())
def ref22_Sizes_M : List PV → Option PV
  | [p0] => ref22_Sizes lpS p0
  | _ => none
def law22_TimetableSizes (L : Lps) (p0 : PV) : Option PV :=
 (Ab.asAgg 13 p0).bind fun x0 =>
 (asSl 4 (cell p0 0)).bind fun es1 =>
 (asSl 3 (cell p0 1)).bind fun es2 =>
 (asSl 10 (cell p0 2)).bind fun es3 =>
 (asSl 3 (cell p0 3)).bind fun es4 =>
 (asSl 5 (cell p0 4)).bind fun es5 =>
 (asSl 4 (cell p0 5)).bind fun es6 =>
 (asSl 2 (cell p0 6)).bind fun es7 =>
 (asSl 3 (cell p0 7)).bind fun es8 =>
 (asSl 4 (cell p0 8)).bind fun es9 =>
 (asSl 6 (cell p0 9)).bind fun es10 =>
 (Ab.asInt IntKind.i64 (cell p0 10)).bind fun n11 =>
 (Ab.asInt IntKind.i64 (cell p0 11)).bind fun n12 =>
 (Ab.asInt IntKind.i64 (cell p0 12)).bind fun n13 =>
 (ref22_Few_M
 [PV.agg
 [PV.rs 4 es1, PV.rs 3 es2, PV.rs 10 es3, PV.rs 3 es4, PV.rs 5 es5, PV.rs 4 es6,
 PV.rs 2 es7, PV.rs 3 es8, PV.rs 4 es9, PV.rs 6 es10, PV.int IntKind.i64 n11,
 PV.int IntKind.i64 n12, PV.int IntKind.i64 n13]]).bind
 fun r14 =>
 (Ab.asBool r14).bind fun b15 =>
 if (!b15) = true then
 (law22_exampleHolds_M []).bind fun r16 =>
 (Ab.asBool r16).bind fun b17 => some (PV.bool b17)
 else
 (timetable_Sizes_M
 [PV.agg
 [PV.rs 4 es1, PV.rs 3 es2, PV.rs 10 es3, PV.rs 3 es4, PV.rs 5 es5,
 PV.rs 4 es6, PV.rs 2 es7, PV.rs 3 es8, PV.rs 4 es9, PV.rs 6 es10,
 PV.int IntKind.i64 n11, PV.int IntKind.i64 n12,
 PV.int IntKind.i64 n13]]).bind
 fun r18 =>
 (Ab.asAgg 11 r18).bind fun x19 =>
 (ref22_Sizes_M
 [PV.agg
 [PV.rs 4 es1, PV.rs 3 es2, PV.rs 10 es3, PV.rs 3 es4, PV.rs 5 es5,
 PV.rs 4 es6, PV.rs 2 es7, PV.rs 3 es8, PV.rs 4 es9, PV.rs 6 es10,
 PV.int IntKind.i64 n11, PV.int IntKind.i64 n12,
 PV.int IntKind.i64 n13]]).bind
 fun r20 =>
 (Ab.asAgg 11 r20).bind fun x21 =>
 if
 chk (kdsRep [Kd.int IntKind.i64] 11)
 [cell r18 0, cell r18 1, cell r18 2, cell r18 3, cell r18 4,
 cell r18 5, cell r18 6, cell r18 7, cell r18 8, cell r18 9,
 cell r18 10] =
 true ∧
 chk (kdsRep [Kd.int IntKind.i64] 11)
 [cell r20 0, cell r20 1, cell r20 2, cell r20 3, cell r20 4,
 cell r20 5, cell r20 6, cell r20 7, cell r20 8, cell r20 9,
 cell r20 10] =
 true then
 (bif
 peqL
 [cell r18 0, cell r18 1, cell r18 2, cell r18 3, cell r18 4,
 cell r18 5, cell r18 6, cell r18 7, cell r18 8, cell r18 9,
 cell r18 10]
 [cell r20 0, cell r20 1, cell r20 2, cell r20 3, cell r20 4,
 cell r20 5, cell r20 6, cell r20 7, cell r20 8, cell r20 9,
 cell r20 10] then
 (law22_exampleHolds_M []).bind fun r22 =>
 (Ab.asBool r22).bind fun b23 => some b23
 else some false).bind
 fun r24 => some (PV.bool r24)
 else none
def law22_TimetableSizes_M : List PV → Option PV
  | [p0] => law22_TimetableSizes lpS p0
  | _ => none
def law22_lower (L : Lps) (p0 : PV) : Option PV :=
 (Ab.asAgg 13 p0).bind fun x0 =>
 (asSl 4 (cell p0 0)).bind fun es1 =>
 (asSl 3 (cell p0 1)).bind fun es2 =>
 (asSl 10 (cell p0 2)).bind fun es3 =>
 (asSl 3 (cell p0 3)).bind fun es4 =>
 (asSl 5 (cell p0 4)).bind fun es5 =>
 (asSl 4 (cell p0 5)).bind fun es6 =>
 (asSl 2 (cell p0 6)).bind fun es7 =>
 (asSl 3 (cell p0 7)).bind fun es8 =>
 (asSl 4 (cell p0 8)).bind fun es9 =>
 (asSl 6 (cell p0 9)).bind fun es10 =>
 (Ab.asInt IntKind.i64 (cell p0 10)).bind fun n11 =>
 (Ab.asInt IntKind.i64 (cell p0 11)).bind fun n12 =>
 (Ab.asInt IntKind.i64 (cell p0 12)).bind fun n13 =>
 (frequency_Check_M [PV.rs 4 es6, PV.rs 5 es5]).bind fun r14 =>
 (asTup 2 r14).bind fun vs15 =>
 (Ab.asInt IntKind.i64 (vs15.getD 0 PV.bad)).bind fun n16 =>
 (Ab.asInt IntKind.i64 (vs15.getD 1 PV.bad)).bind fun n17 =>
 (through_Check_M [PV.rs 2 es7, PV.rs 5 es5, PV.rs 4 es6]).bind fun r18 =>
 (asTup 2 r18).bind fun vs19 =>
 (Ab.asInt IntKind.i64 (vs19.getD 0 PV.bad)).bind fun n20 =>
 (Ab.asInt IntKind.i64 (vs19.getD 1 PV.bad)).bind fun n21 =>
 (through_CheckGuarantees_M
 [PV.rs 3 es8, PV.rs 5 es5, PV.rs 4 es6,
 PV.int IntKind.i64 (↑es1.length : Int)]).bind
 fun r22 =>
 (asTup 2 r22).bind fun vs23 =>
 (Ab.asInt IntKind.i64 (vs23.getD 0 PV.bad)).bind fun n24 =>
 (Ab.asInt IntKind.i64 (vs23.getD 1 PV.bad)).bind fun n25 =>
 (footpath_Check_M
 [PV.rs 4 es9, PV.int IntKind.i64 (↑es1.length : Int)]).bind
 fun r26 =>
 (asTup 2 r26).bind fun vs27 =>
 (Ab.asInt IntKind.i64 (vs27.getD 0 PV.bad)).bind fun n28 =>
 (Ab.asInt IntKind.i64 (vs27.getD 1 PV.bad)).bind fun n29 =>
 (product_Check_M
 [PV.agg
 [PV.rs 6 es10, PV.int IntKind.i64 n11,
 PV.int IntKind.i64 n12,
 PV.int IntKind.i64 n13]]).bind
 fun r30 =>
 (asTup 2 r30).bind fun vs31 =>
 (Ab.asInt IntKind.i64 (vs31.getD 0 PV.bad)).bind
 fun n32 =>
 (Ab.asInt IntKind.i64 (vs31.getD 1 PV.bad)).bind
 fun n33 =>
 (bif n17 == 0 then some (n21 == 0)
 else some false).bind
 fun r34 =>
 (bif r34 then some (n25 == 0)
 else some false).bind
 fun r35 =>
 (bif r35 then some (n29 == 0)
 else some false).bind
 fun r36 =>
 (bif r36 then some (n33 == 0)
 else some false).bind
 fun r37 => some (PV.bool r37)
def law22_lower_M : List PV → Option PV
  | [p0] => law22_lower lpS p0
  | _ => none
def law22_upper (L : Lps) (p0 : PV) : Option PV :=
 (Ab.asAgg 13 p0).bind fun x0 =>
 (asSl 4 (cell p0 0)).bind fun es1 =>
 (asSl 3 (cell p0 1)).bind fun es2 =>
 (asSl 10 (cell p0 2)).bind fun es3 =>
 (asSl 3 (cell p0 3)).bind fun es4 =>
 (asSl 5 (cell p0 4)).bind fun es5 =>
 (asSl 4 (cell p0 5)).bind fun es6 =>
 (asSl 2 (cell p0 6)).bind fun es7 =>
 (asSl 3 (cell p0 7)).bind fun es8 =>
 (asSl 4 (cell p0 8)).bind fun es9 =>
 (asSl 6 (cell p0 9)).bind fun es10 =>
 (Ab.asInt IntKind.i64 (cell p0 10)).bind fun n11 =>
 (Ab.asInt IntKind.i64 (cell p0 11)).bind fun n12 =>
 (Ab.asInt IntKind.i64 (cell p0 12)).bind fun n13 =>
 (stop_Check_M [PV.rs 4 es1]).bind fun r14 =>
 (asTup 2 r14).bind fun vs15 =>
 (Ab.asInt IntKind.i64 (vs15.getD 0 PV.bad)).bind fun n16 =>
 (Ab.asInt IntKind.i64 (vs15.getD 1 PV.bad)).bind fun n17 =>
 (route_Check_M [PV.rs 3 es2]).bind fun r18 =>
 (asTup 2 r18).bind fun vs19 =>
 (Ab.asInt IntKind.i64 (vs19.getD 0 PV.bad)).bind fun n20 =>
 (Ab.asInt IntKind.i64 (vs19.getD 1 PV.bad)).bind fun n21 =>
 (calendar_Check_M [PV.rs 10 es3]).bind fun r22 =>
 (asTup 2 r22).bind fun vs23 =>
 (Ab.asInt IntKind.i64 (vs23.getD 0 PV.bad)).bind fun n24 =>
 (Ab.asInt IntKind.i64 (vs23.getD 1 PV.bad)).bind fun n25 =>
 (calendar_CheckExceptions_M
 [PV.rs 3 es4, PV.int IntKind.i64 (↑es3.length : Int)]).bind
 fun r26 =>
 (asTup 2 r26).bind fun vs27 =>
 (Ab.asInt IntKind.i64 (vs27.getD 0 PV.bad)).bind fun n28 =>
 (Ab.asInt IntKind.i64 (vs27.getD 1 PV.bad)).bind fun n29 =>
 (trip_Check_M
 [PV.rs 5 es5, PV.int IntKind.i64 (↑es1.length : Int),
 PV.int IntKind.i64 (↑es2.length : Int),
 PV.int IntKind.i64 (↑es3.length : Int)]).bind
 fun r30 =>
 (asTup 2 r30).bind fun vs31 =>
 (Ab.asInt IntKind.i64 (vs31.getD 0 PV.bad)).bind
 fun n32 =>
 (Ab.asInt IntKind.i64 (vs31.getD 1 PV.bad)).bind
 fun n33 =>
 (bif n17 == 0 then some (n21 == 0)
 else some false).bind
 fun r34 =>
 (bif r34 then some (n25 == 0)
 else some false).bind
 fun r35 =>
 (bif r35 then some (n29 == 0)
 else some false).bind
 fun r36 =>
 (bif r36 then some (n33 == 0)
 else some false).bind
 fun r37 => some (PV.bool r37)
def law22_upper_M : List PV → Option PV
  | [p0] => law22_upper lpS p0
  | _ => none
def law22_TimetableParts (L : Lps) (p0 : PV) : Option PV :=
 (Ab.asAgg 13 p0).bind fun x0 =>
 (asSl 4 (cell p0 0)).bind fun es1 =>
 (asSl 3 (cell p0 1)).bind fun es2 =>
 (asSl 10 (cell p0 2)).bind fun es3 =>
 (asSl 3 (cell p0 3)).bind fun es4 =>
 (asSl 5 (cell p0 4)).bind fun es5 =>
 (asSl 4 (cell p0 5)).bind fun es6 =>
 (asSl 2 (cell p0 6)).bind fun es7 =>
 (asSl 3 (cell p0 7)).bind fun es8 =>
 (asSl 4 (cell p0 8)).bind fun es9 =>
 (asSl 6 (cell p0 9)).bind fun es10 =>
 (Ab.asInt IntKind.i64 (cell p0 10)).bind fun n11 =>
 (Ab.asInt IntKind.i64 (cell p0 11)).bind fun n12 =>
 (Ab.asInt IntKind.i64 (cell p0 12)).bind fun n13 =>
 (ref22_Few_M
 [PV.agg
 [PV.rs 4 es1, PV.rs 3 es2, PV.rs 10 es3, PV.rs 3 es4, PV.rs 5 es5, PV.rs 4 es6,
 PV.rs 2 es7, PV.rs 3 es8, PV.rs 4 es9, PV.rs 6 es10, PV.int IntKind.i64 n11,
 PV.int IntKind.i64 n12, PV.int IntKind.i64 n13]]).bind
 fun r14 =>
 (Ab.asBool r14).bind fun b15 =>
 if (!b15) = true then
 (law22_exampleHolds_M []).bind fun r16 =>
 (Ab.asBool r16).bind fun b17 => some (PV.bool b17)
 else
 (timetable_Check_M
 [PV.agg
 [PV.rs 4 es1, PV.rs 3 es2, PV.rs 10 es3, PV.rs 3 es4, PV.rs 5 es5,
 PV.rs 4 es6, PV.rs 2 es7, PV.rs 3 es8, PV.rs 4 es9, PV.rs 6 es10,
 PV.int IntKind.i64 n11, PV.int IntKind.i64 n12,
 PV.int IntKind.i64 n13]]).bind
 fun r18 =>
 (asTup 3 r18).bind fun vs19 =>
 (Ab.asInt IntKind.i64 (vs19.getD 0 PV.bad)).bind fun n20 =>
 (Ab.asInt IntKind.i64 (vs19.getD 1 PV.bad)).bind fun n21 =>
 (Ab.asInt IntKind.i64 (vs19.getD 2 PV.bad)).bind fun n22 =>
 (law22_upper_M
 [PV.agg
 [PV.rs 4 es1, PV.rs 3 es2, PV.rs 10 es3, PV.rs 3 es4, PV.rs 5 es5,
 PV.rs 4 es6, PV.rs 2 es7, PV.rs 3 es8, PV.rs 4 es9,
 PV.rs 6 es10, PV.int IntKind.i64 n11, PV.int IntKind.i64 n12,
 PV.int IntKind.i64 n13]]).bind
 fun r23 =>
 (Ab.asBool r23).bind fun b24 =>
 (bif b24 then
 (law22_lower_M
 [PV.agg
 [PV.rs 4 es1, PV.rs 3 es2, PV.rs 10 es3, PV.rs 3 es4,
 PV.rs 5 es5, PV.rs 4 es6, PV.rs 2 es7, PV.rs 3 es8,
 PV.rs 4 es9, PV.rs 6 es10, PV.int IntKind.i64 n11,
 PV.int IntKind.i64 n12, PV.int IntKind.i64 n13]]).bind
 fun r25 => (Ab.asBool r25).bind fun b26 => some b26
 else some false).bind
 fun r27 =>
 (bif (n22 == 0) == r27 then
 (law22_exampleHolds_M []).bind fun r28 =>
 (Ab.asBool r28).bind fun b29 => some b29
 else some false).bind
 fun r30 => some (PV.bool r30)
def law22_TimetableParts_M : List PV → Option PV
  | [p0] => law22_TimetableParts lpS p0
  | _ => none
def law22_TimetableShrinks (L : Lps) (p0 : PV) (p1 : PV) : Option PV :=
 (Ab.asAgg 13 p0).bind fun x0 =>
 (asSl 4 (cell p0 0)).bind fun es1 =>
 (asSl 3 (cell p0 1)).bind fun es2 =>
 (asSl 10 (cell p0 2)).bind fun es3 =>
 (asSl 3 (cell p0 3)).bind fun es4 =>
 (asSl 5 (cell p0 4)).bind fun es5 =>
 (asSl 4 (cell p0 5)).bind fun es6 =>
 (asSl 2 (cell p0 6)).bind fun es7 =>
 (asSl 3 (cell p0 7)).bind fun es8 =>
 (asSl 4 (cell p0 8)).bind fun es9 =>
 (asSl 6 (cell p0 9)).bind fun es10 =>
 (Ab.asInt IntKind.i64 (cell p0 10)).bind fun n11 =>
 (Ab.asInt IntKind.i64 (cell p0 11)).bind fun n12 =>
 (Ab.asInt IntKind.i64 (cell p0 12)).bind fun n13 =>
 (Ab.asInt IntKind.i64 p1).bind fun n14 =>
 (ref22_Few_M
 [PV.agg
 [PV.rs 4 es1, PV.rs 3 es2, PV.rs 10 es3, PV.rs 3 es4, PV.rs 5 es5, PV.rs 4 es6,
 PV.rs 2 es7, PV.rs 3 es8, PV.rs 4 es9, PV.rs 6 es10, PV.int IntKind.i64 n11,
 PV.int IntKind.i64 n12, PV.int IntKind.i64 n13]]).bind
 fun r15 =>
 (Ab.asBool r15).bind fun b16 =>
 (bif !b16 then some true else some (decide (n14 < 0))).bind fun r17 =>
 if r17 = true then
 (law22_exampleHolds_M []).bind fun r18 =>
 (Ab.asBool r18).bind fun b19 => some (PV.bool b19)
 else
 (timetable_Check_M
 [PV.agg
 [PV.rs 4 es1, PV.rs 3 es2, PV.rs 10 es3, PV.rs 3 es4, PV.rs 5 es5,
 PV.rs 4 es6, PV.rs 2 es7, PV.rs 3 es8, PV.rs 4 es9, PV.rs 6 es10,
 PV.int IntKind.i64 n11, PV.int IntKind.i64 n12,
 PV.int IntKind.i64 n13]]).bind
 fun r20 =>
 (asTup 3 r20).bind fun vs21 =>
 (Ab.asInt IntKind.i64 (vs21.getD 0 PV.bad)).bind fun n22 =>
 (Ab.asInt IntKind.i64 (vs21.getD 1 PV.bad)).bind fun n23 =>
 (Ab.asInt IntKind.i64 (vs21.getD 2 PV.bad)).bind fun n24 =>
 if
 (0 : Int) ≤ 0 ∧
 (0 ≤
 if (↑es4.length : Int) < n14 then (↑es4.length : Int)
 else n14) ∧
 (if (↑es4.length : Int) < n14 then (↑es4.length : Int)
 else n14) ≤
 (↑es4.length : Int) ∧
 3 = 3 ∧ 3 ≠ 0 then
 if
 (0 : Int) ≤ 0 ∧
 (0 ≤
 if (↑es6.length : Int) < n14 then (↑es6.length : Int)
 else n14) ∧
 (if (↑es6.length : Int) < n14 then (↑es6.length : Int)
 else n14) ≤
 (↑es6.length : Int) ∧
 4 = 4 ∧ 4 ≠ 0 then
 if
 (0 : Int) ≤ 0 ∧
 (0 ≤
 if (↑es7.length : Int) < n14 then (↑es7.length : Int)
 else n14) ∧
 (if (↑es7.length : Int) < n14 then (↑es7.length : Int)
 else n14) ≤
 (↑es7.length : Int) ∧
 2 = 2 ∧ 2 ≠ 0 then
 if
 (0 : Int) ≤ 0 ∧
 (0 ≤
 if (↑es8.length : Int) < n14 then (↑es8.length : Int)
 else n14) ∧
 (if (↑es8.length : Int) < n14 then (↑es8.length : Int)
 else n14) ≤
 (↑es8.length : Int) ∧
 3 = 3 ∧ 3 ≠ 0 then
 if
 (0 : Int) ≤ 0 ∧
 (0 ≤
 if (↑es9.length : Int) < n14 then (↑es9.length : Int)
 else n14) ∧
 (if (↑es9.length : Int) < n14 then (↑es9.length : Int)
 else n14) ≤
 (↑es9.length : Int) ∧
 4 = 4 ∧ 4 ≠ 0 then
 (timetable_Check_M
 [PV.agg
 [PV.rs 4 es1, PV.rs 3 es2, PV.rs 10 es3,
 PV.rs 3
 (List.drop (Int.toNat 0)
 (List.take
 (if (↑es4.length : Int) < n14 then
 (↑es4.length : Int)
 else n14).toNat
 es4)),
 PV.rs 5 es5,
 PV.rs 4
 (List.drop (Int.toNat 0)
 (List.take
 (if (↑es6.length : Int) < n14 then
 (↑es6.length : Int)
 else n14).toNat
 es6)),
 PV.rs 2
 (List.drop (Int.toNat 0)
 (List.take
 (if (↑es7.length : Int) < n14 then
 (↑es7.length : Int)
 else n14).toNat
 es7)),
 PV.rs 3
 (List.drop (Int.toNat 0)
 (List.take
 (if (↑es8.length : Int) < n14 then
 (↑es8.length : Int)
 else n14).toNat
 es8)),
 PV.rs 4
 (List.drop (Int.toNat 0)
 (List.take
 (if (↑es9.length : Int) < n14 then
 (↑es9.length : Int)
 else n14).toNat
 es9)),
 PV.rs 6 es10, PV.int IntKind.i64 n11,
 PV.int IntKind.i64 n12,
 PV.int IntKind.i64 n13]]).bind
 fun r25 =>
 (asTup 3 r25).bind fun vs26 =>
 (Ab.asInt IntKind.i64 (vs26.getD 0 PV.bad)).bind
 fun n27 =>
 (Ab.asInt IntKind.i64 (vs26.getD 1 PV.bad)).bind
 fun n28 =>
 (Ab.asInt IntKind.i64 (vs26.getD 2 PV.bad)).bind
 fun n29 =>
 (bif n24 != 0 then some true
 else some (n29 == 0)).bind
 fun r30 =>
 (bif r30 then
 (law22_exampleHolds_M []).bind fun r31 =>
 (Ab.asBool r31).bind fun b32 => some b32
 else some false).bind
 fun r33 => some (PV.bool r33)
 else none
 else none
 else none
 else none
 else none
def law22_TimetableShrinks_M : List PV → Option PV
  | [p0, p1] => law22_TimetableShrinks lpS p0 p1
  | _ => none
end Go.Ab
