/- Functions of the program as plain Lean functions, printed by a program of the author. -/
import Derived.Test.YtklnckbjikhkgaaAbSort
set_option linter.unusedVariables false
namespace Go.Ab
noncomputable def ident_Compare (L : Lps) (p0 : PV) (p1 : PV) : Option PV :=
 (asStr p0).bind fun s0 =>
 (asStr p1).bind fun s1 =>
 if Op.bytesLess s0 s1 = true then some (PV.int IntKind.i64 (-1))
 else if (!(Op.bytesLess s0 s1 || s0 == s1)) = true then some (PV.int IntKind.i64 1) else some (PV.int IntKind.i64 0)
noncomputable def ident_Compare_M : List PV → Option PV
  | [p0, p1] => ident_Compare lpS p0 p1
  | _ => none
noncomputable def ident_New_1 (L : Lps) (p0 : PV) (p1 : PV) (c2 : PV) (c3 : PV) (c4 : PV) : Option PV :=
 (Ab.asInt IntKind.i64 p0).bind fun n0 =>
 (Ab.asInt IntKind.i64 p1).bind fun n1 =>
 (asSl 1 c2).bind fun es2 =>
 (idxP es2 n0).bind fun p3 =>
 (asStr (cell p3 0)).bind fun s4 =>
 (asSl 1 c2).bind fun es5 =>
 (idxP es5 n1).bind fun p6 =>
 (asStr (cell p6 0)).bind fun s7 =>
 (ident_Compare_M [PV.str s4, PV.str s7]).bind fun r8 =>
 (Ab.asInt IntKind.i64 r8).bind fun n9 => some (PV.int IntKind.i64 n9)
noncomputable def ident_New_1_M : List PV → Option PV
  | [p0, p1, PV.rp [PV.rp [c2, c3, c4]]] => ident_New_1 lpS p0 p1 c2 c3 c4
  | _ => none
noncomputable def ident_Valid_L1 : (Bytes × Int × Unit) → (Bytes × Int × Unit → Option PV) → Option PV := fun s1 rec2 =>
 if decide (s1.snd.fst < (↑(List.length s1.fst) : Int)) = true then
 (idxB s1.fst s1.snd.fst).bind fun b3 =>
 (bif decide (97 ≤ (↑b3.toNat : Int)) then some (decide ((↑b3.toNat : Int) ≤ 122)) else some false).bind fun r4 =>
 if r4 = true then rec2 (s1.fst, IntKind.i64.wrap (s1.snd.fst + 1), ())
 else
 (bif decide (65 ≤ (↑b3.toNat : Int)) then some (decide ((↑b3.toNat : Int) ≤ 90)) else some false).bind fun r5 =>
 if r5 = true then rec2 (s1.fst, IntKind.i64.wrap (s1.snd.fst + 1), ())
 else
 (bif decide (48 ≤ (↑b3.toNat : Int)) then some (decide ((↑b3.toNat : Int) ≤ 57)) else some false).bind
 fun r6 =>
 if r6 = true then rec2 (s1.fst, IntKind.i64.wrap (s1.snd.fst + 1), ())
 else
 if ((↑b3.toNat : Int) == 45) = true then rec2 (s1.fst, IntKind.i64.wrap (s1.snd.fst + 1), ())
 else
 if ((↑b3.toNat : Int) == 95) = true then rec2 (s1.fst, IntKind.i64.wrap (s1.snd.fst + 1), ())
 else
 if ((↑b3.toNat : Int) == 46) = true then rec2 (s1.fst, IntKind.i64.wrap (s1.snd.fst + 1), ())
 else some (PV.bool false)
else
 (bif decide ((↑(List.length s1.fst) : Int) > 0) then some (decide ((↑(List.length s1.fst) : Int) ≤ 32))
 else some false).bind
 fun r7 => some (PV.bool r7)
noncomputable def ident_Valid (L : Lps) (p0 : PV) : Option PV :=
 (asStr p0).bind fun s0 => L.run ident_Valid_L1 (s0, 0, ())
noncomputable def ident_Valid_M : List PV → Option PV
  | [p0] => ident_Valid lpS p0
  | _ => none
noncomputable def ident_Table_Find (L : Lps) (p0 : PV) (p1 : PV) : Option PV :=
 ptrCase 3 p0 ((asStr p1).bind fun s0 => some (PV.tup [PV.int IntKind.i64 0, PV.bool false])) fun q1 =>
 (asSl 1 (cell q1 0)).bind fun es2 =>
 (asSl 1 (cell q1 2)).bind fun es3 =>
 (asStr p1).bind fun s4 =>
 mapCase 9 (cell q1 1) (some (PV.tup [PV.int IntKind.i64 0, PV.bool false])) fun ks5 vs6 =>
 (Ab.asInt IntKind.i64 (mlook (PV.str s4) (PV.int IntKind.i64 0) (ks5.zip vs6))).bind fun n7 =>
 if (!mhas (PV.str s4) (ks5.zip vs6)) = true then some (PV.tup [PV.int IntKind.i64 0, PV.bool false])
 else some (PV.tup [PV.int IntKind.i64 n7, PV.bool true])
noncomputable def ident_Table_Find_M : List PV → Option PV
  | [p0, p1] => ident_Table_Find lpS p0 p1
  | _ => none
noncomputable def ident_Table_Len (L : Lps) (p0 : PV) : Option PV :=
 ptrCase 3 p0 (some (PV.int IntKind.i64 0)) fun q0 =>
 (asSl 1 (cell q0 0)).bind fun es1 =>
 (asSl 1 (cell q0 2)).bind fun es2 => some (PV.int IntKind.i64 (↑es1.length : Int))
noncomputable def ident_Table_Len_M : List PV → Option PV
  | [p0] => ident_Table_Len lpS p0
  | _ => none
noncomputable def ident_Table_Name (L : Lps) (p0 : PV) (p1 : PV) : Option PV :=
 ptrCase 3 p0 ((Ab.asInt IntKind.i64 p1).bind fun n0 => some (PV.tup [PV.str [], PV.bool false])) fun q1 =>
 (asSl 1 (cell q1 0)).bind fun es2 =>
 (asSl 1 (cell q1 2)).bind fun es3 =>
 (Ab.asInt IntKind.i64 p1).bind fun n4 =>
 (bif decide (n4 < 0) then some true else some (decide (n4 ≥ (↑es2.length : Int)))).bind fun r5 =>
 if r5 = true then some (PV.tup [PV.str [], PV.bool false])
 else (idxP es2 n4).bind fun p6 => (asStr (cell p6 0)).bind fun s7 => some (PV.tup [PV.str s7, PV.bool true])
noncomputable def ident_Table_Name_M : List PV → Option PV
  | [p0, p1] => ident_Table_Name lpS p0 p1
  | _ => none
noncomputable def strings_HasPrefix (L : Lps) (p0 : PV) (p1 : PV) : Option PV :=
 (asStr p0).bind fun s0 =>
 (asStr p1).bind fun s1 =>
 (bif decide ((↑(List.length s0) : Int) ≥ (↑(List.length s1) : Int)) then
 if (0 : Int) ≤ 0 ∧ 0 ≤ (↑(List.length s1) : Int) ∧ (↑(List.length s1) : Int) ≤ (↑(List.length s0) : Int) then
 some (List.drop (Int.toNat 0) (List.take (↑(List.length s1) : Int).toNat s0) == s1)
 else none
 else some false).bind
 fun r2 => some (PV.bool r2)
noncomputable def strings_HasPrefix_M : List PV → Option PV
  | [p0, p1] => strings_HasPrefix lpS p0 p1
  | _ => none
noncomputable def ident_Table_Prefix_L1 (L : Lps) : (PV × Bytes × List PV × Int × Int × List PV × Unit) → (PV × Bytes × List PV × Int × Int × List PV × Unit → Option PV) → Option PV := fun s5 rec6 =>
 if decide (s5.snd.snd.snd.snd.fst < s5.snd.snd.snd.fst) = true then
 (idxP s5.snd.snd.fst s5.snd.snd.snd.snd.fst).bind fun p7 =>
 (Ab.asInt IntKind.i64 (cell p7 0)).bind fun n8 =>
 (asSl 1 (cell s5.fst 0)).bind fun es9 =>
 (idxP es9 n8).bind fun p10 =>
 (asStr (cell p10 0)).bind fun s11 =>
 (strings_HasPrefix_M [PV.str s11, PV.str s5.snd.fst]).bind fun r12 =>
 (Ab.asBool r12).bind fun b13 =>
 if b13 = true then
 if (s5.snd.snd.snd.snd.snd.fst ++ [PV.int IntKind.i64 n8]).length * 8 ≤ roomBound ∧ 0 < 8 then
 rec6
 (PV.agg [cell s5.fst 0, cell s5.fst 1, cell s5.fst 2], s5.snd.fst, s5.snd.snd.fst,
 s5.snd.snd.snd.fst, IntKind.i64.wrap (s5.snd.snd.snd.snd.fst + 1),
 s5.snd.snd.snd.snd.snd.fst ++ [PV.int IntKind.i64 n8], ())
 else none
 else
 rec6
 (PV.agg [cell s5.fst 0, cell s5.fst 1, cell s5.fst 2], s5.snd.fst, s5.snd.snd.fst,
 s5.snd.snd.snd.fst, IntKind.i64.wrap (s5.snd.snd.snd.snd.fst + 1), s5.snd.snd.snd.snd.snd.fst, ())
else some (PV.rs 1 s5.snd.snd.snd.snd.snd.fst)
noncomputable def ident_Table_Prefix (L : Lps) (p0 : PV) (p1 : PV) : Option PV :=
 ptrCase 3 p0 ((asStr p1).bind fun s0 => some (PV.rs 1 [])) fun q1 =>
 (asSl 1 (cell q1 0)).bind fun es2 =>
 (asSl 1 (cell q1 2)).bind fun es3 =>
 (asStr p1).bind fun s4 =>
 L.run (ident_Table_Prefix_L1 L)
 (PV.agg [PV.rs 1 es2, cell q1 1, PV.rs 1 es3], s4, es3, (↑es3.length : Int), 0, [], ())
noncomputable def ident_Table_Prefix_M : List PV → Option PV
  | [p0, p1] => ident_Table_Prefix lpS p0 p1
  | _ => none
noncomputable def slices_Clone_int_int (L : Lps) (p0 : PV) : Option PV :=
 (asSl 1 p0).bind fun es0 =>
 if es0.isEmpty = true then
 agree (some (PV.rs 1 [])) (if ([] ++ es0).length * 8 ≤ roomBound ∧ 0 < 8 then some (PV.rs 1 ([] ++ es0)) else none)
 else if ([] ++ es0).length * 8 ≤ roomBound ∧ 0 < 8 then some (PV.rs 1 ([] ++ es0)) else none
noncomputable def slices_Clone_int_int_M : List PV → Option PV
  | [p0] => slices_Clone_int_int lpS p0
  | _ => none
noncomputable def ident_Table_Sorted (L : Lps) (p0 : PV) : Option PV :=
 ptrCase 3 p0 (some (PV.rs 1 [])) fun q0 =>
 (asSl 1 (cell q0 0)).bind fun es1 =>
 (asSl 1 (cell q0 2)).bind fun es2 =>
 (slices_Clone_int_int_M [PV.rs 1 es2]).bind fun r3 =>
 (asSl 1 r3).bind fun es4 => some (PV.rs 1 (List.map scalP es4))
noncomputable def ident_Table_Sorted_M : List PV → Option PV
  | [p0] => ident_Table_Sorted lpS p0
  | _ => none
noncomputable def ident_Unique_L1 : (List PV × Int × Int × List (PV × PV) × Unit) → (List PV × Int × Int × List (PV × PV) × Unit → Option PV) → Option PV := fun s1 rec2 =>
 if decide (s1.snd.snd.fst < s1.snd.fst) = true then
 (idxP s1.fst s1.snd.snd.fst).bind fun p3 =>
 (asStr (cell p3 0)).bind fun s4 =>
 (ident_Valid_M [PV.str s4]).bind fun r5 =>
 (Ab.asBool r5).bind fun b6 =>
 if (!b6) = true then some (PV.tup [PV.int IntKind.i64 s1.snd.snd.fst, PV.int IntKind.i64 12])
 else
 (Ab.asInt IntKind.i64 (mlook (PV.str s4) (PV.int IntKind.i64 0) s1.snd.snd.snd.fst)).bind fun n7 =>
 if mhas (PV.str s4) s1.snd.snd.snd.fst = true then
 some (PV.tup [PV.int IntKind.i64 s1.snd.snd.fst, PV.int IntKind.i64 6])
 else
 rec2
 (s1.fst, s1.snd.fst, IntKind.i64.wrap (s1.snd.snd.fst + 1),
 mput (PV.str s4) (PV.int IntKind.i64 s1.snd.snd.fst) s1.snd.snd.snd.fst, ())
else some (PV.tup [PV.int IntKind.i64 0, PV.int IntKind.i64 0])
noncomputable def ident_Unique (L : Lps) (p0 : PV) : Option PV :=
 (asSl 1 p0).bind fun es0 => L.run ident_Unique_L1 (es0, (↑es0.length : Int), 0, [], ())
noncomputable def ident_Unique_M : List PV → Option PV
  | [p0] => ident_Unique lpS p0
  | _ => none
noncomputable def law05_same_L1 : (List PV × List PV × Int × Unit) → (List PV × List PV × Int × Unit → Option PV) → Option PV := fun s2 rec3 =>
 if decide (s2.snd.snd.fst < (↑s2.fst.length : Int)) = true then
 (idxP s2.fst s2.snd.snd.fst).bind fun p4 =>
 (Ab.asInt IntKind.i64 (cell p4 0)).bind fun n5 =>
 (idxP s2.snd.fst s2.snd.snd.fst).bind fun p6 =>
 (Ab.asInt IntKind.i64 (cell p6 0)).bind fun n7 =>
 if (n5 != n7) = true then some (PV.bool false)
 else rec3 (s2.fst, s2.snd.fst, IntKind.i64.wrap (s2.snd.snd.fst + 1), ())
else some (PV.bool true)
noncomputable def law05_same (L : Lps) (p0 : PV) (p1 : PV) : Option PV :=
 (asSl 1 p0).bind fun es0 =>
 (asSl 1 p1).bind fun es1 =>
 if ((↑es0.length : Int) != (↑es1.length : Int)) = true then some (PV.bool false)
 else L.run law05_same_L1 (es0, es1, 0, ())
noncomputable def law05_same_M : List PV → Option PV
  | [p0, p1] => law05_same lpS p0 p1
  | _ => none
noncomputable def slices_Clone_string_string (L : Lps) (p0 : PV) : Option PV :=
 (asSl 1 p0).bind fun es0 =>
 if es0.isEmpty = true then
 agree (some (PV.rs 1 []))
 (if ([] ++ es0).length * 16 ≤ roomBound ∧ 0 < 16 then some (PV.rs 1 ([] ++ es0)) else none)
 else if ([] ++ es0).length * 16 ≤ roomBound ∧ 0 < 16 then some (PV.rs 1 ([] ++ es0)) else none
noncomputable def slices_Clone_string_string_M : List PV → Option PV
  | [p0] => slices_Clone_string_string lpS p0
  | _ => none
noncomputable def law05_exampleHolds_L1 (L : Lps) : (Int × Int × Int × Int × Int × Int × List PV × List (PV × PV) × List PV × Unit) → (Int × Int × Int × Int × Int × Int × List PV × List (PV × PV) × List PV × Unit → Option PV) → Option PV := fun s17 rec18 =>
 if decide (s17.snd.fst < s17.fst) = true then
 if (s17.snd.snd.snd.snd.snd.snd.snd.snd.fst ++ [PV.int IntKind.i64 s17.snd.fst]).length * 8 ≤ roomBound ∧ 0 < 8 then
 rec18
 (s17.fst, IntKind.i64.wrap (s17.snd.fst + 1), s17.snd.snd.fst, s17.snd.snd.snd.fst, s17.snd.snd.snd.snd.fst,
 s17.snd.snd.snd.snd.snd.fst, s17.snd.snd.snd.snd.snd.snd.fst, s17.snd.snd.snd.snd.snd.snd.snd.fst,
 s17.snd.snd.snd.snd.snd.snd.snd.snd.fst ++ [PV.int IntKind.i64 s17.snd.fst], ())
 else none
else
 if 1 = 1 ∧ s17.snd.snd.snd.snd.snd.snd.snd.snd.fst.length ≤ roomBound then
 (sortS
 (fun c a b =>
 ident_New_1_M
 [a, b,
 PV.rp
 [PV.rp
 [PV.rs 1 s17.snd.snd.snd.snd.snd.snd.fst,
 PV.rm 9 (List.map (fun x => x.fst) s17.snd.snd.snd.snd.snd.snd.snd.fst)
 (List.map (fun x => x.snd) s17.snd.snd.snd.snd.snd.snd.snd.fst),
 PV.rs 1 c]]])
 s17.snd.snd.snd.snd.snd.snd.snd.snd.fst).bind
 fun es'19 =>
 (ident_Table_Find_M
 [PV.rp
 [PV.rs 1 s17.snd.snd.snd.snd.snd.snd.fst,
 PV.rm 9 (List.map (fun x => x.fst) s17.snd.snd.snd.snd.snd.snd.snd.fst)
 (List.map (fun x => x.snd) s17.snd.snd.snd.snd.snd.snd.snd.fst),
 PV.rs 1 es'19],
 PV.str [97]]).bind
 fun r20 =>
 (asTup 2 r20).bind fun vs21 =>
 (Ab.asInt IntKind.i64 (vs21.getD 0 PV.bad)).bind fun n22 =>
 (Ab.asBool (vs21.getD 1 PV.bad)).bind fun b23 =>
 (ident_Table_Name_M
 [PV.rp
 [PV.rs 1 s17.snd.snd.snd.snd.snd.snd.fst,
 PV.rm 9 (List.map (fun x => x.fst) s17.snd.snd.snd.snd.snd.snd.snd.fst)
 (List.map (fun x => x.snd) s17.snd.snd.snd.snd.snd.snd.snd.fst),
 PV.rs 1 es'19],
 PV.int IntKind.i64 1]).bind
 fun r24 =>
 (asTup 2 r24).bind fun vs25 =>
 (asStr (vs25.getD 0 PV.bad)).bind fun s26 =>
 (Ab.asBool (vs25.getD 1 PV.bad)).bind fun b27 =>
 (ident_Table_Find_M
 [PV.rp
 [PV.rs 1 s17.snd.snd.snd.snd.snd.snd.fst,
 PV.rm 9 (List.map (fun x => x.fst) s17.snd.snd.snd.snd.snd.snd.snd.fst)
 (List.map (fun x => x.snd) s17.snd.snd.snd.snd.snd.snd.snd.fst),
 PV.rs 1 es'19],
 PV.str [99]]).bind
 fun r28 =>
 (asTup 2 r28).bind fun vs29 =>
 (Ab.asInt IntKind.i64 (vs29.getD 0 PV.bad)).bind fun n30 =>
 (Ab.asBool (vs29.getD 1 PV.bad)).bind fun b31 =>
 (ident_Valid_M [PV.str [83, 116, 111, 112, 45, 49, 46, 97]]).bind fun r32 =>
 (Ab.asBool r32).bind fun b33 =>
 (bif b33 then
 (ident_Valid_M [PV.str [97, 32, 98]]).bind fun r34 =>
 (Ab.asBool r34).bind fun b35 => some !b35
 else some false).bind
 fun r36 =>
 (bif r36 then
 (ident_Valid_M [PV.str []]).bind fun r37 =>
 (Ab.asBool r37).bind fun b38 => some !b38
 else some false).bind
 fun r39 =>
 (bif r39 then
 (ident_Compare_M [PV.str [66], PV.str [97]]).bind fun r40 =>
 (Ab.asInt IntKind.i64 r40).bind fun n41 => some (n41 == -1)
 else some false).bind
 fun r42 =>
 (bif r42 then some (s17.snd.snd.fst == 2) else some false).bind fun r43 =>
 (bif r43 then some (s17.snd.snd.snd.fst == 6) else some false).bind fun r44 =>
 (bif r44 then some (s17.snd.snd.snd.snd.fst == 1) else some false).bind
 fun r45 =>
 (bif r45 then some (s17.snd.snd.snd.snd.snd.fst == 12)
 else some false).bind
 fun r46 =>
 (bif r46 then some (0 == 0) else some false).bind fun r47 =>
 (bif r47 then some (0 == 0) else some false).bind fun r48 =>
 (bif r48 then some (n22 == 2) else some false).bind fun r49 =>
 (bif r49 then some b23 else some false).bind fun r50 =>
 (bif r50 then some (s26 == [97, 46, 50]) else some false).bind
 fun r51 =>
 (bif r51 then some b27 else some false).bind fun r52 =>
 (bif r52 then some !b31 else some false).bind fun r53 =>
 (bif r53 then
 (ident_Table_Len_M
 [PV.rp
 [PV.rs 1 s17.snd.snd.snd.snd.snd.snd.fst,
 PV.rm 9
 (List.map (fun x => x.fst)
 s17.snd.snd.snd.snd.snd.snd.snd.fst)
 (List.map (fun x => x.snd)
 s17.snd.snd.snd.snd.snd.snd.snd.fst),
 PV.rs 1 es'19]]).bind
 fun r54 =>
 (Ab.asInt IntKind.i64 r54).bind fun n55 =>
 some (n55 == 3)
 else some false).bind
 fun r56 =>
 bif sameB true r56 then
 (ident_Table_Sorted_M
 [PV.rp
 [PV.rs 1 s17.snd.snd.snd.snd.snd.snd.fst,
 PV.rm 9
 (List.map (fun x => x.fst)
 s17.snd.snd.snd.snd.snd.snd.snd.fst)
 (List.map (fun x => x.snd)
 s17.snd.snd.snd.snd.snd.snd.snd.fst),
 PV.rs 1 es'19]]).bind
 fun r57 =>
 (asSl 1 r57).bind fun es58 =>
 (law05_same_M
 [PV.rs 1 (List.map scalP es58),
 PV.rs 1
 [PV.int IntKind.i64 2,
 PV.int IntKind.i64 1,
 PV.int IntKind.i64 0]]).bind
 fun r59 =>
 (Ab.asBool r59).bind fun b60 =>
 if r56 = true then
 bif sameB true b60 then
 (ident_Table_Prefix_M
 [PV.rp
 [PV.rs 1
 s17.snd.snd.snd.snd.snd.snd.fst,
 PV.rm 9
 (List.map (fun x => x.fst)
 s17.snd.snd.snd.snd.snd.snd.snd.fst)
 (List.map (fun x => x.snd)
 s17.snd.snd.snd.snd.snd.snd.snd.fst),
 PV.rs 1 es'19],
 PV.str [97]]).bind
 fun r61 =>
 (asSl 1 r61).bind fun es62 =>
 (law05_same_M
 [PV.rs 1 (List.map scalP es62),
 PV.rs 1
 [PV.int IntKind.i64 2,
 PV.int IntKind.i64
 1]]).bind
 fun r63 =>
 (Ab.asBool r63).bind fun b64 =>
 if b60 = true then
 some (PV.bool b64)
 else some (PV.bool false)
 else
 if b60 = true then some (PV.tup [])
 else some (PV.bool false)
 else some (PV.bool false)
 else if r56 = true then none else some (PV.bool false)
 else none
noncomputable def law05_exampleHolds_L2 (L : Lps) : (Int × Int × Int × Int × Int × Int × List (PV × PV) × List PV × Unit) → (Int × Int × Int × Int × Int × Int × List (PV × PV) × List PV × Unit → Option PV) → Option PV := fun s8 rec9 =>
 if decide (s8.snd.fst < s8.fst) = true then
 if inRange s8.snd.fst s8.snd.snd.snd.snd.snd.snd.snd.fst.length then
 s8.snd.snd.snd.snd.snd.snd.snd.fst[s8.snd.fst.toNat]?.bind fun e10 =>
 (asStr (cell e10 0)).bind fun s11 =>
 (ident_Valid_M [PV.str s11]).bind fun r12 =>
 (Ab.asBool r12).bind fun b13 =>
 if (!b13) = true then some (PV.bool false)
 else
 (Ab.asInt IntKind.i64 (mlook (PV.str s11) (PV.int IntKind.i64 0) s8.snd.snd.snd.snd.snd.snd.fst)).bind
 fun n14 =>
 if mhas (PV.str s11) s8.snd.snd.snd.snd.snd.snd.fst = true then some (PV.bool false)
 else
 rec9
 (s8.fst, IntKind.i64.wrap (s8.snd.fst + 1), s8.snd.snd.fst, s8.snd.snd.snd.fst,
 s8.snd.snd.snd.snd.fst, s8.snd.snd.snd.snd.snd.fst,
 mput (PV.str s11) (PV.int IntKind.i64 s8.snd.fst) s8.snd.snd.snd.snd.snd.snd.fst,
 s8.snd.snd.snd.snd.snd.snd.snd.fst, ())
 else none
else
 (slices_Clone_string_string_M [PV.rs 1 s8.snd.snd.snd.snd.snd.snd.snd.fst]).bind fun r15 =>
 (asSl 1 r15).bind fun es16 =>
 L.run (law05_exampleHolds_L1 L)
 ((↑(List.map scalP es16).length : Int), 0, s8.snd.snd.fst, s8.snd.snd.snd.fst, s8.snd.snd.snd.snd.fst,
 s8.snd.snd.snd.snd.snd.fst, List.map scalP es16, s8.snd.snd.snd.snd.snd.snd.fst, [], ())
noncomputable def law05_exampleHolds (L : Lps) : Option PV :=
 (ident_Unique_M [PV.rs 1 [PV.str [97], PV.str [98], PV.str [97]]]).bind fun r0 =>
 (asTup 2 r0).bind fun vs1 =>
 (Ab.asInt IntKind.i64 (vs1.getD 0 PV.bad)).bind fun n2 =>
 (Ab.asInt IntKind.i64 (vs1.getD 1 PV.bad)).bind fun n3 =>
 (ident_Unique_M [PV.rs 1 [PV.str [97], PV.str [63], PV.str [97]]]).bind fun r4 =>
 (asTup 2 r4).bind fun vs5 =>
 (Ab.asInt IntKind.i64 (vs5.getD 0 PV.bad)).bind fun n6 =>
 (Ab.asInt IntKind.i64 (vs5.getD 1 PV.bad)).bind fun n7 =>
 L.run (law05_exampleHolds_L2 L)
 ((↑3 : Int), 0, n2, n3, n6, n7, [], [PV.str [98], PV.str [97, 46, 50], PV.str [97]], ())
noncomputable def law05_exampleHolds_M : List PV → Option PV
  | [] => law05_exampleHolds lpS 
  | _ => none
noncomputable def ref05_Valid_L1 : (Bytes × Int × Unit) → (Bytes × Int × Unit → Option PV) → Option PV := fun s2 rec3 =>
 if decide (s2.snd.fst < (↑(List.length s2.fst) : Int)) = true then
 (idxB s2.fst s2.snd.fst).bind fun b4 =>
 (bif decide ((↑b4.toNat : Int) ≥ 65) then some (decide ((↑b4.toNat : Int) ≤ 90)) else some false).bind fun r5 =>
 (bif r5 then some true
 else
 (bif decide ((↑b4.toNat : Int) ≥ 97) then some (decide ((↑b4.toNat : Int) ≤ 122)) else some false).bind
 fun r6 => some r6).bind
 fun r7 =>
 (bif !r7 then
 (bif decide ((↑b4.toNat : Int) ≥ 48) then some (decide ((↑b4.toNat : Int) ≤ 57)) else some false).bind
 fun r8 => some !r8
 else some false).bind
 fun r9 =>
 (bif r9 then some ((↑b4.toNat : Int) != 45) else some false).bind fun r10 =>
 (bif r10 then some ((↑b4.toNat : Int) != 95) else some false).bind fun r11 =>
 (bif r11 then some ((↑b4.toNat : Int) != 46) else some false).bind fun r12 =>
 if r12 = true then some (PV.bool false) else rec3 (s2.fst, IntKind.i64.wrap (s2.snd.fst + 1), ())
else some (PV.bool true)
noncomputable def ref05_Valid (L : Lps) (p0 : PV) : Option PV :=
 (asStr p0).bind fun s0 =>
 (bif (↑(List.length s0) : Int) == 0 then some true else some (decide ((↑(List.length s0) : Int) > 32))).bind fun r1 =>
 if r1 = true then some (PV.bool false) else L.run ref05_Valid_L1 (s0, 0, ())
noncomputable def ref05_Valid_M : List PV → Option PV
  | [p0] => ref05_Valid lpS p0
  | _ => none
noncomputable def law05_IdentValids (L : Lps) (p0 : PV) : Option PV :=
 (asStr p0).bind fun s0 =>
 (bif decide ((↑(List.length s0) : Int) > 4096) then some true
 else
 (ident_Valid_M [PV.str s0]).bind fun r1 =>
 (Ab.asBool r1).bind fun b2 =>
 (ref05_Valid_M [PV.str s0]).bind fun r3 => (Ab.asBool r3).bind fun b4 => some (b2 == b4)).bind
 fun r5 =>
 (bif r5 then (law05_exampleHolds_M []).bind fun r6 => (Ab.asBool r6).bind fun b7 => some b7 else some false).bind
 fun r8 => some (PV.bool r8)
noncomputable def law05_IdentValids_M : List PV → Option PV
  | [p0] => law05_IdentValids lpS p0
  | _ => none
noncomputable def ref05_Compare_L1 : (Bytes × Bytes × Int × Unit) → (Bytes × Bytes × Int × Unit → Option PV) → Option PV := fun s2 rec3 =>
 (bif decide (s2.snd.snd.fst < (↑(List.length s2.fst) : Int)) then
 some (decide (s2.snd.snd.fst < (↑(List.length s2.snd.fst) : Int)))
 else some false).bind
 fun r4 =>
 if r4 = true then
 (idxB s2.fst s2.snd.snd.fst).bind fun b5 =>
 (idxB s2.snd.fst s2.snd.snd.fst).bind fun b6 =>
 if decide ((↑b5.toNat : Int) < (↑b6.toNat : Int)) = true then some (PV.int IntKind.i64 (-1))
 else
 (idxB s2.fst s2.snd.snd.fst).bind fun b7 =>
 (idxB s2.snd.fst s2.snd.snd.fst).bind fun b8 =>
 if decide ((↑b7.toNat : Int) > (↑b8.toNat : Int)) = true then some (PV.int IntKind.i64 1)
 else rec3 (s2.fst, s2.snd.fst, IntKind.i64.wrap (s2.snd.snd.fst + 1), ())
 else
 if decide ((↑(List.length s2.fst) : Int) < (↑(List.length s2.snd.fst) : Int)) = true then
 some (PV.int IntKind.i64 (-1))
 else
 if decide ((↑(List.length s2.fst) : Int) > (↑(List.length s2.snd.fst) : Int)) = true then
 some (PV.int IntKind.i64 1)
 else some (PV.int IntKind.i64 0)
noncomputable def ref05_Compare (L : Lps) (p0 : PV) (p1 : PV) : Option PV :=
 (asStr p0).bind fun s0 => (asStr p1).bind fun s1 => L.run ref05_Compare_L1 (s0, s1, 0, ())
noncomputable def ref05_Compare_M : List PV → Option PV
  | [p0, p1] => ref05_Compare lpS p0 p1
  | _ => none
noncomputable def law05_IdentCompares (L : Lps) (p0 : PV) (p1 : PV) : Option PV :=
 (asStr p0).bind fun s0 =>
 (asStr p1).bind fun s1 =>
 (bif decide ((↑(List.length s0) : Int) > 4096) then some true
 else some (decide ((↑(List.length s1) : Int) > 4096))).bind
 fun r2 =>
 if r2 = true then (law05_exampleHolds_M []).bind fun r3 => (Ab.asBool r3).bind fun b4 => some (PV.bool b4)
 else
 (ident_Compare_M [PV.str s0, PV.str s1]).bind fun r5 =>
 (Ab.asInt IntKind.i64 r5).bind fun n6 =>
 (ref05_Compare_M [PV.str s0, PV.str s1]).bind fun r7 =>
 (Ab.asInt IntKind.i64 r7).bind fun n8 =>
 (bif n6 == n8 then (law05_exampleHolds_M []).bind fun r9 => (Ab.asBool r9).bind fun b10 => some b10
 else some false).bind
 fun r11 => some (PV.bool r11)
noncomputable def law05_IdentCompares_M : List PV → Option PV
  | [p0, p1] => law05_IdentCompares lpS p0 p1
  | _ => none
noncomputable def law05_small_L1 : (List PV × Int × Unit) → (List PV × Int × Unit → Option PV) → Option PV := fun s1 rec2 =>
 if decide (s1.snd.fst < (↑s1.fst.length : Int)) = true then
 (idxP s1.fst s1.snd.fst).bind fun p3 =>
 (asStr (cell p3 0)).bind fun s4 =>
 if decide ((↑(List.length s4) : Int) > 1024) = true then some (PV.bool false)
 else rec2 (s1.fst, IntKind.i64.wrap (s1.snd.fst + 1), ())
else some (PV.bool true)
noncomputable def law05_small (L : Lps) (p0 : PV) : Option PV :=
 (asSl 1 p0).bind fun es0 =>
 if decide ((↑es0.length : Int) > 60) = true then some (PV.bool false) else L.run law05_small_L1 (es0, 0, ())
noncomputable def law05_small_M : List PV → Option PV
  | [p0] => law05_small lpS p0
  | _ => none
noncomputable def ref05_Find_L1 : (List PV × Bytes × Int × Unit) → (List PV × Bytes × Int × Unit → Option PV) → Option PV := fun s2 rec3 =>
 if decide (s2.snd.snd.fst < (↑s2.fst.length : Int)) = true then
 (idxP s2.fst s2.snd.snd.fst).bind fun p4 =>
 (asStr (cell p4 0)).bind fun s5 =>
 if (s5 == s2.snd.fst) = true then some (PV.int IntKind.i64 s2.snd.snd.fst)
 else rec3 (s2.fst, s2.snd.fst, IntKind.i64.wrap (s2.snd.snd.fst + 1), ())
else some (PV.int IntKind.i64 (-1))
noncomputable def ref05_Find (L : Lps) (p0 : PV) (p1 : PV) : Option PV :=
 (asSl 1 p0).bind fun es0 => (asStr p1).bind fun s1 => L.run ref05_Find_L1 (es0, s1, 0, ())
noncomputable def ref05_Find_M : List PV → Option PV
  | [p0, p1] => ref05_Find lpS p0 p1
  | _ => none
noncomputable def ref05_Unique_L1 (L : Lps) : (List PV × Int × Unit) → (List PV × Int × Unit → Option PV) → Option PV := fun s1 rec2 =>
 if decide (s1.snd.fst < (↑s1.fst.length : Int)) = true then
 (idxP s1.fst s1.snd.fst).bind fun p3 =>
 (asStr (cell p3 0)).bind fun s4 =>
 (ref05_Valid_M [PV.str s4]).bind fun r5 =>
 (Ab.asBool r5).bind fun b6 =>
 if (!b6) = true then some (PV.tup [PV.int IntKind.i64 s1.snd.fst, PV.int IntKind.i64 12])
 else
 if (0 : Int) ≤ 0 ∧ 0 ≤ s1.snd.fst ∧ s1.snd.fst ≤ (↑s1.fst.length : Int) ∧ 1 = 1 ∧ 1 ≠ 0 then
 (idxP s1.fst s1.snd.fst).bind fun p7 =>
 (asStr (cell p7 0)).bind fun s8 =>
 (ref05_Find_M [PV.rs 1 (List.drop (Int.toNat 0) (List.take s1.snd.fst.toNat s1.fst)), PV.str s8]).bind
 fun r9 =>
 (Ab.asInt IntKind.i64 r9).bind fun n10 =>
 if decide (n10 ≥ 0) = true then
 some (PV.tup [PV.int IntKind.i64 s1.snd.fst, PV.int IntKind.i64 6])
 else rec2 (s1.fst, IntKind.i64.wrap (s1.snd.fst + 1), ())
 else none
else some (PV.tup [PV.int IntKind.i64 0, PV.int IntKind.i64 0])
noncomputable def ref05_Unique (L : Lps) (p0 : PV) : Option PV :=
 (asSl 1 p0).bind fun es0 => L.run (ref05_Unique_L1 L) (es0, 0, ())
noncomputable def ref05_Unique_M : List PV → Option PV
  | [p0] => ref05_Unique lpS p0
  | _ => none
noncomputable def law05_IdentUniques (L : Lps) (p0 : PV) : Option PV :=
 (asSl 1 p0).bind fun es0 =>
 (law05_small_M [PV.rs 1 es0]).bind fun r1 =>
 (Ab.asBool r1).bind fun b2 =>
 if (!b2) = true then (law05_exampleHolds_M []).bind fun r3 => (Ab.asBool r3).bind fun b4 => some (PV.bool b4)
 else
 (ident_Unique_M [PV.rs 1 es0]).bind fun r5 =>
 (asTup 2 r5).bind fun vs6 =>
 (Ab.asInt IntKind.i64 (vs6.getD 0 PV.bad)).bind fun n7 =>
 (Ab.asInt IntKind.i64 (vs6.getD 1 PV.bad)).bind fun n8 =>
 (ref05_Unique_M [PV.rs 1 es0]).bind fun r9 =>
 (asTup 2 r9).bind fun vs10 =>
 (Ab.asInt IntKind.i64 (vs10.getD 0 PV.bad)).bind fun n11 =>
 (Ab.asInt IntKind.i64 (vs10.getD 1 PV.bad)).bind fun n12 =>
 (bif n7 == n11 then some (n8 == n12) else some false).bind fun r13 =>
 (bif r13 then
 (law05_exampleHolds_M []).bind fun r14 => (Ab.asBool r14).bind fun b15 => some b15
 else some false).bind
 fun r16 => some (PV.bool r16)
noncomputable def law05_IdentUniques_M : List PV → Option PV
  | [p0] => law05_IdentUniques lpS p0
  | _ => none
noncomputable def law05_IdentFinds_L1 : (Int × Int × Int × Int × Int × List PV × Bytes × Int × List PV × Unit) → (Int × Int × Int × Int × Int × List PV × Bytes × Int × List PV × Unit → Option PV) → Option PV := fun s18 rec19 =>
 if decide (s18.snd.snd.snd.snd.fst < (↑s18.snd.snd.snd.snd.snd.snd.snd.snd.fst.length : Int)) = true then
 if inRange s18.snd.snd.snd.snd.fst s18.snd.snd.snd.snd.snd.snd.snd.snd.fst.length then
 s18.snd.snd.snd.snd.snd.snd.snd.snd.fst[s18.snd.snd.snd.snd.fst.toNat]?.bind fun e20 =>
 rec19
 (s18.fst, s18.snd.fst, s18.snd.snd.fst, s18.snd.snd.snd.fst, IntKind.i64.wrap (s18.snd.snd.snd.snd.fst + 1),
 s18.snd.snd.snd.snd.snd.fst, s18.snd.snd.snd.snd.snd.snd.fst, s18.snd.snd.snd.snd.snd.snd.snd.fst,
 s18.snd.snd.snd.snd.snd.snd.snd.snd.fst.set s18.snd.snd.snd.snd.fst.toNat
 (PV.str [99, 104, 97, 110, 103, 101, 100]),
 ())
 else none
else
 (bif s18.fst == s18.snd.snd.fst then some (s18.snd.fst == s18.snd.snd.snd.fst) else some false).bind fun r21 =>
 (bif r21 then some (false == (s18.snd.snd.snd.fst == 0)) else some false).bind fun r22 =>
 if (!r22) = true then some (PV.bool false)
 else (law05_exampleHolds_M []).bind fun r23 => (Ab.asBool r23).bind fun b24 => some (PV.bool b24)
noncomputable def law05_IdentFinds_L2 : (Int × Int × Int × Int × Int × List PV × Bytes × Int × List PV × Unit) → (Int × Int × Int × Int × Int × List PV × Bytes × Int × List PV × Unit → Option PV) → Option PV := fun s30 rec31 =>
 if decide (s30.snd.snd.snd.snd.fst < (↑s30.snd.snd.snd.snd.snd.snd.snd.snd.fst.length : Int)) = true then
 if inRange s30.snd.snd.snd.snd.fst s30.snd.snd.snd.snd.snd.snd.snd.snd.fst.length then
 s30.snd.snd.snd.snd.snd.snd.snd.snd.fst[s30.snd.snd.snd.snd.fst.toNat]?.bind fun e32 =>
 rec31
 (s30.fst, s30.snd.fst, s30.snd.snd.fst, s30.snd.snd.snd.fst, IntKind.i64.wrap (s30.snd.snd.snd.snd.fst + 1),
 s30.snd.snd.snd.snd.snd.fst, s30.snd.snd.snd.snd.snd.snd.fst, s30.snd.snd.snd.snd.snd.snd.snd.fst,
 s30.snd.snd.snd.snd.snd.snd.snd.snd.fst.set s30.snd.snd.snd.snd.fst.toNat
 (PV.str [99, 104, 97, 110, 103, 101, 100]),
 ())
 else none
else
 (bif s30.fst == s30.snd.snd.fst then some (s30.snd.fst == s30.snd.snd.snd.fst) else some false).bind fun r33 =>
 (bif r33 then some (false == (s30.snd.snd.snd.fst == 0)) else some false).bind fun r34 =>
 if (!r34) = true then some (PV.bool false)
 else (law05_exampleHolds_M []).bind fun r35 => (Ab.asBool r35).bind fun b36 => some (PV.bool b36)
noncomputable def law05_IdentFinds_L3 : (Int × Int × Int × Int × Int × List PV × Bytes × Int × List PV × List PV × List (PV × PV) × List PV × Unit) → (Int × Int × Int × Int × Int × List PV × Bytes × Int × List PV × List PV × List (PV × PV) × List PV × Unit → Option PV) → Option PV := fun s46 rec47 =>
 if decide (s46.snd.snd.snd.snd.fst < (↑s46.snd.snd.snd.snd.snd.snd.snd.snd.fst.length : Int)) = true then
 if inRange s46.snd.snd.snd.snd.fst s46.snd.snd.snd.snd.snd.snd.snd.snd.fst.length then
 s46.snd.snd.snd.snd.snd.snd.snd.snd.fst[s46.snd.snd.snd.snd.fst.toNat]?.bind fun e48 =>
 rec47
 (s46.fst, s46.snd.fst, s46.snd.snd.fst, s46.snd.snd.snd.fst, IntKind.i64.wrap (s46.snd.snd.snd.snd.fst + 1),
 s46.snd.snd.snd.snd.snd.fst, s46.snd.snd.snd.snd.snd.snd.fst, s46.snd.snd.snd.snd.snd.snd.snd.fst,
 s46.snd.snd.snd.snd.snd.snd.snd.snd.fst.set s46.snd.snd.snd.snd.fst.toNat
 (PV.str [99, 104, 97, 110, 103, 101, 100]),
 s46.snd.snd.snd.snd.snd.snd.snd.snd.snd.fst, s46.snd.snd.snd.snd.snd.snd.snd.snd.snd.snd.fst,
 s46.snd.snd.snd.snd.snd.snd.snd.snd.snd.snd.snd.fst, ())
 else none
else
 (bif s46.fst == s46.snd.snd.fst then some (s46.snd.fst == s46.snd.snd.snd.fst) else some false).bind fun r49 =>
 (bif r49 then some (true == (s46.snd.snd.snd.fst == 0)) else some false).bind fun r50 =>
 if (!r50) = true then some (PV.bool false)
 else
 (ident_Table_Find_M
 [PV.rp
 [PV.rs 1 s46.snd.snd.snd.snd.snd.snd.snd.snd.snd.fst,
 PV.rm 9 (List.map (fun x => x.fst) s46.snd.snd.snd.snd.snd.snd.snd.snd.snd.snd.fst)
 (List.map (fun x => x.snd) s46.snd.snd.snd.snd.snd.snd.snd.snd.snd.snd.fst),
 PV.rs 1 s46.snd.snd.snd.snd.snd.snd.snd.snd.snd.snd.snd.fst],
 PV.str s46.snd.snd.snd.snd.snd.snd.fst]).bind
 fun r51 =>
 (asTup 2 r51).bind fun vs52 =>
 (Ab.asInt IntKind.i64 (vs52.getD 0 PV.bad)).bind fun n53 =>
 (Ab.asBool (vs52.getD 1 PV.bad)).bind fun b54 =>
 (ref05_Find_M [PV.rs 1 s46.snd.snd.snd.snd.snd.fst, PV.str s46.snd.snd.snd.snd.snd.snd.fst]).bind
 fun r55 =>
 (Ab.asInt IntKind.i64 r55).bind fun n56 =>
 (bif !b54 == decide (n56 ≥ 0) then some true
 else (bif b54 then some (n53 != n56) else some false).bind fun r57 => some r57).bind
 fun r58 =>
 (bif r58 then some true
 else (bif !b54 then some (n53 != 0) else some false).bind fun r59 => some r59).bind
 fun r60 =>
 if r60 = true then some (PV.bool false)
 else
 (ident_Table_Name_M
 [PV.rp
 [PV.rs 1 s46.snd.snd.snd.snd.snd.snd.snd.snd.snd.fst,
 PV.rm 9
 (List.map (fun x => x.fst) s46.snd.snd.snd.snd.snd.snd.snd.snd.snd.snd.fst)
 (List.map (fun x => x.snd) s46.snd.snd.snd.snd.snd.snd.snd.snd.snd.snd.fst),
 PV.rs 1 s46.snd.snd.snd.snd.snd.snd.snd.snd.snd.snd.snd.fst],
 PV.int IntKind.i64 s46.snd.snd.snd.snd.snd.snd.snd.fst]).bind
 fun r61 =>
 (asTup 2 r61).bind fun vs62 =>
 (asStr (vs62.getD 0 PV.bad)).bind fun s63 =>
 (Ab.asBool (vs62.getD 1 PV.bad)).bind fun b64 =>
 (bif decide (s46.snd.snd.snd.snd.snd.snd.snd.fst ≥ 0) then
 some
 (decide
 (s46.snd.snd.snd.snd.snd.snd.snd.fst <
 (↑s46.snd.snd.snd.snd.snd.fst.length : Int)))
 else some false).bind
 fun r65 =>
 (bif !b64 == r65 then some true
 else
 (bif b64 then
 (idxP s46.snd.snd.snd.snd.snd.fst
 s46.snd.snd.snd.snd.snd.snd.snd.fst).bind
 fun p66 => (asStr (cell p66 0)).bind fun s67 => some !s63 == s67
 else some false).bind
 fun r68 => some r68).bind
 fun r69 =>
 (bif r69 then some true
 else
 (bif !b64 then some !s63 == [] else some false).bind fun r70 =>
 some r70).bind
 fun r71 =>
 if r71 = true then some (PV.bool false)
 else
 (ident_Table_Len_M
 [PV.rp
 [PV.rs 1 s46.snd.snd.snd.snd.snd.snd.snd.snd.snd.fst,
 PV.rm 9
 (List.map (fun x => x.fst)
 s46.snd.snd.snd.snd.snd.snd.snd.snd.snd.snd.fst)
 (List.map (fun x => x.snd)
 s46.snd.snd.snd.snd.snd.snd.snd.snd.snd.snd.fst),
 PV.rs 1
 s46.snd.snd.snd.snd.snd.snd.snd.snd.snd.snd.snd.fst]]).bind
 fun r72 =>
 (Ab.asInt IntKind.i64 r72).bind fun n73 =>
 (bif n73 == (↑s46.snd.snd.snd.snd.snd.fst.length : Int) then
 (law05_exampleHolds_M []).bind fun r74 =>
 (Ab.asBool r74).bind fun b75 => some b75
 else some false).bind
 fun r76 => some (PV.bool r76)
noncomputable def law05_IdentFinds_L4 (L : Lps) : (Int × Int × List PV × List PV × Bytes × Int × List PV × List PV × List (PV × PV) × List PV × Unit) → (Int × Int × List PV × List PV × Bytes × Int × List PV × List PV × List (PV × PV) × List PV × Unit → Option PV) → Option PV := fun s39 rec40 =>
 if decide (s39.snd.fst < s39.fst) = true then
 if
 (s39.snd.snd.snd.snd.snd.snd.snd.snd.snd.fst ++ [PV.int IntKind.i64 s39.snd.fst]).length * 8 ≤ roomBound ∧
 0 < 8 then
 rec40
 (s39.fst, IntKind.i64.wrap (s39.snd.fst + 1), s39.snd.snd.fst, s39.snd.snd.snd.fst, s39.snd.snd.snd.snd.fst,
 s39.snd.snd.snd.snd.snd.fst, s39.snd.snd.snd.snd.snd.snd.fst, s39.snd.snd.snd.snd.snd.snd.snd.fst,
 s39.snd.snd.snd.snd.snd.snd.snd.snd.fst,
 s39.snd.snd.snd.snd.snd.snd.snd.snd.snd.fst ++ [PV.int IntKind.i64 s39.snd.fst], ())
 else none
else
 if 1 = 1 ∧ s39.snd.snd.snd.snd.snd.snd.snd.snd.snd.fst.length ≤ roomBound then
 (sortS
 (fun c a b =>
 ident_New_1_M
 [a, b,
 PV.rp
 [PV.rp
 [PV.rs 1 s39.snd.snd.snd.snd.snd.snd.snd.fst,
 PV.rm 9 (List.map (fun x => x.fst) s39.snd.snd.snd.snd.snd.snd.snd.snd.fst)
 (List.map (fun x => x.snd) s39.snd.snd.snd.snd.snd.snd.snd.snd.fst),
 PV.rs 1 c]]])
 s39.snd.snd.snd.snd.snd.snd.snd.snd.snd.fst).bind
 fun es'41 =>
 (ref05_Unique_M [PV.rs 1 s39.snd.snd.fst]).bind fun r42 =>
 (asTup 2 r42).bind fun vs43 =>
 (Ab.asInt IntKind.i64 (vs43.getD 0 PV.bad)).bind fun n44 =>
 (Ab.asInt IntKind.i64 (vs43.getD 1 PV.bad)).bind fun n45 =>
 L.run law05_IdentFinds_L3
 (0, 0, n44, n45, 0, s39.snd.snd.snd.fst, s39.snd.snd.snd.snd.fst, s39.snd.snd.snd.snd.snd.fst,
 s39.snd.snd.snd.snd.snd.snd.fst, s39.snd.snd.snd.snd.snd.snd.snd.fst,
 s39.snd.snd.snd.snd.snd.snd.snd.snd.fst, es'41, ())
 else none
noncomputable def law05_IdentFinds_L5 (L : Lps) : (Int × Int × List PV × List PV × Bytes × Int × List (PV × PV) × List PV × Unit) → (Int × Int × List PV × List PV × Bytes × Int × List (PV × PV) × List PV × Unit → Option PV) → Option PV := fun s8 rec9 =>
 if decide (s8.snd.fst < s8.fst) = true then
 if inRange s8.snd.fst s8.snd.snd.snd.snd.snd.snd.snd.fst.length then
 s8.snd.snd.snd.snd.snd.snd.snd.fst[s8.snd.fst.toNat]?.bind fun e10 =>
 (asStr (cell e10 0)).bind fun s11 =>
 (ident_Valid_M [PV.str s11]).bind fun r12 =>
 (Ab.asBool r12).bind fun b13 =>
 if (!b13) = true then
 (ref05_Unique_M [PV.rs 1 s8.snd.snd.fst]).bind fun r14 =>
 (asTup 2 r14).bind fun vs15 =>
 (Ab.asInt IntKind.i64 (vs15.getD 0 PV.bad)).bind fun n16 =>
 (Ab.asInt IntKind.i64 (vs15.getD 1 PV.bad)).bind fun n17 =>
 L.run law05_IdentFinds_L1
 (s8.snd.fst, 12, n16, n17, 0, s8.snd.snd.snd.fst, s8.snd.snd.snd.snd.fst,
 s8.snd.snd.snd.snd.snd.fst, s8.snd.snd.snd.snd.snd.snd.snd.fst, ())
 else
 (Ab.asInt IntKind.i64 (mlook (PV.str s11) (PV.int IntKind.i64 0) s8.snd.snd.snd.snd.snd.snd.fst)).bind
 fun n25 =>
 if mhas (PV.str s11) s8.snd.snd.snd.snd.snd.snd.fst = true then
 (ref05_Unique_M [PV.rs 1 s8.snd.snd.fst]).bind fun r26 =>
 (asTup 2 r26).bind fun vs27 =>
 (Ab.asInt IntKind.i64 (vs27.getD 0 PV.bad)).bind fun n28 =>
 (Ab.asInt IntKind.i64 (vs27.getD 1 PV.bad)).bind fun n29 =>
 L.run law05_IdentFinds_L2
 (s8.snd.fst, 6, n28, n29, 0, s8.snd.snd.snd.fst, s8.snd.snd.snd.snd.fst,
 s8.snd.snd.snd.snd.snd.fst, s8.snd.snd.snd.snd.snd.snd.snd.fst, ())
 else
 rec9
 (s8.fst, IntKind.i64.wrap (s8.snd.fst + 1), s8.snd.snd.fst, s8.snd.snd.snd.fst,
 s8.snd.snd.snd.snd.fst, s8.snd.snd.snd.snd.snd.fst,
 mput (PV.str s11) (PV.int IntKind.i64 s8.snd.fst) s8.snd.snd.snd.snd.snd.snd.fst,
 s8.snd.snd.snd.snd.snd.snd.snd.fst, ())
 else none
else
 (slices_Clone_string_string_M [PV.rs 1 s8.snd.snd.snd.snd.snd.snd.snd.fst]).bind fun r37 =>
 (asSl 1 r37).bind fun es38 =>
 L.run (law05_IdentFinds_L4 L)
 ((↑(List.map scalP es38).length : Int), 0, s8.snd.snd.fst, s8.snd.snd.snd.fst, s8.snd.snd.snd.snd.fst,
 s8.snd.snd.snd.snd.snd.fst, s8.snd.snd.snd.snd.snd.snd.snd.fst, List.map scalP es38,
 s8.snd.snd.snd.snd.snd.snd.fst, [], ())
noncomputable def law05_IdentFinds (L : Lps) (p0 : PV) (p1 : PV) (p2 : PV) : Option PV :=
 (asSl 1 p0).bind fun es0 =>
 (asStr p1).bind fun s1 =>
 (Ab.asInt IntKind.i64 p2).bind fun n2 =>
 (law05_small_M [PV.rs 1 es0]).bind fun r3 =>
 (Ab.asBool r3).bind fun b4 =>
 (bif !b4 then some true else some (decide ((↑(List.length s1) : Int) > 1024))).bind fun r5 =>
 if r5 = true then (law05_exampleHolds_M []).bind fun r6 => (Ab.asBool r6).bind fun b7 => some (PV.bool b7)
 else
 if ([] ++ es0).length * 16 ≤ roomBound ∧ 0 < 16 then
 L.run (law05_IdentFinds_L5 L) ((↑([] ++ es0).length : Int), 0, es0, es0, s1, n2, [], [] ++ es0, ())
 else none
noncomputable def law05_IdentFinds_M : List PV → Option PV
  | [p0, p1, p2] => law05_IdentFinds lpS p0 p1 p2
  | _ => none
noncomputable def ref05_Begins (L : Lps) (p0 : PV) (p1 : PV) : Option PV :=
 (asStr p0).bind fun s0 =>
 (asStr p1).bind fun s1 =>
 (bif decide ((↑(List.length s0) : Int) ≥ (↑(List.length s1) : Int)) then
 if (0 : Int) ≤ 0 ∧ 0 ≤ (↑(List.length s1) : Int) ∧ (↑(List.length s1) : Int) ≤ (↑(List.length s0) : Int) then
 some (List.drop (Int.toNat 0) (List.take (↑(List.length s1) : Int).toNat s0) == s1)
 else none
 else some false).bind
 fun r2 => some (PV.bool r2)
noncomputable def ref05_Begins_M : List PV → Option PV
  | [p0, p1] => ref05_Begins lpS p0 p1
  | _ => none
noncomputable def ref05_Prefix_L1 (L : Lps) (rec3 : List PV × Bytes × List PV × Int × Unit → Option PV) : (List PV × Bytes × List PV × Int × Int × Unit) → (List PV × Bytes × List PV × Int × Int × Unit → Option PV) → Option PV := fun s8 rec9 =>
 (bif decide (s8.snd.snd.snd.snd.fst < (↑s8.snd.snd.fst.length : Int)) then
 (idxP s8.snd.snd.fst s8.snd.snd.snd.snd.fst).bind fun p10 =>
 (Ab.asInt IntKind.i64 (cell p10 0)).bind fun n11 =>
 (idxP s8.fst n11).bind fun p12 =>
 (asStr (cell p12 0)).bind fun s13 =>
 (idxP s8.fst s8.snd.snd.snd.fst).bind fun p14 =>
 (asStr (cell p14 0)).bind fun s15 =>
 (ref05_Compare_M [PV.str s13, PV.str s15]).bind fun r16 =>
 (Ab.asInt IntKind.i64 r16).bind fun n17 => some (decide (n17 ≤ 0))
 else some false).bind
 fun r18 =>
 if r18 = true then
 rec9 (s8.fst, s8.snd.fst, s8.snd.snd.fst, s8.snd.snd.snd.fst, IntKind.i64.wrap (s8.snd.snd.snd.snd.fst + 1), ())
 else
 if (0 : Int) ≤ 0 ∧ 0 ≤ s8.snd.snd.snd.snd.fst ∧ s8.snd.snd.snd.snd.fst ≤ (↑s8.snd.snd.fst.length : Int) ∧ 1 = 1 ∧ 1 ≠ 0 then
 if
 ([] ++ List.drop (Int.toNat 0) (List.take s8.snd.snd.snd.snd.fst.toNat s8.snd.snd.fst)).length * 8 ≤
 roomBound ∧
 0 < 8 then
 if
 ([] ++ List.drop (Int.toNat 0) (List.take s8.snd.snd.snd.snd.fst.toNat s8.snd.snd.fst) ++
 [PV.int IntKind.i64 s8.snd.snd.snd.fst]).length *
 8 ≤
 roomBound ∧
 0 < 8 then
 if
 0 ≤ s8.snd.snd.snd.snd.fst ∧
 s8.snd.snd.snd.snd.fst ≤ (↑s8.snd.snd.fst.length : Int) ∧
 (↑s8.snd.snd.fst.length : Int) ≤ (↑s8.snd.snd.fst.length : Int) ∧ 1 = 1 ∧ 1 ≠ 0 then
 if
 ([] ++ List.drop (Int.toNat 0) (List.take s8.snd.snd.snd.snd.fst.toNat s8.snd.snd.fst) ++
 [PV.int IntKind.i64 s8.snd.snd.snd.fst] ++
 List.drop s8.snd.snd.snd.snd.fst.toNat
 (List.take (↑s8.snd.snd.fst.length : Int).toNat s8.snd.snd.fst)).length *
 8 ≤
 roomBound ∧
 0 < 8 then
 rec3
 (s8.fst, s8.snd.fst,
 [] ++ List.drop (Int.toNat 0) (List.take s8.snd.snd.snd.snd.fst.toNat s8.snd.snd.fst) ++
 [PV.int IntKind.i64 s8.snd.snd.snd.fst] ++
 List.drop s8.snd.snd.snd.snd.fst.toNat
 (List.take (↑s8.snd.snd.fst.length : Int).toNat s8.snd.snd.fst),
 IntKind.i64.wrap (s8.snd.snd.snd.fst + 1), ())
 else none
 else none
 else none
 else none
 else none
noncomputable def ref05_Prefix_L2 (L : Lps) : (List PV × Bytes × List PV × Int × Unit) → (List PV × Bytes × List PV × Int × Unit → Option PV) → Option PV := fun s2 rec3 =>
 if decide (s2.snd.snd.snd.fst < (↑s2.fst.length : Int)) = true then
 (idxP s2.fst s2.snd.snd.snd.fst).bind fun p4 =>
 (asStr (cell p4 0)).bind fun s5 =>
 (ref05_Begins_M [PV.str s5, PV.str s2.snd.fst]).bind fun r6 =>
 (Ab.asBool r6).bind fun b7 =>
 if (!b7) = true then rec3 (s2.fst, s2.snd.fst, s2.snd.snd.fst, IntKind.i64.wrap (s2.snd.snd.snd.fst + 1), ())
 else L.run (ref05_Prefix_L1 L rec3) (s2.fst, s2.snd.fst, s2.snd.snd.fst, s2.snd.snd.snd.fst, 0, ())
else some (PV.rs 1 s2.snd.snd.fst)
noncomputable def ref05_Prefix (L : Lps) (p0 : PV) (p1 : PV) : Option PV :=
 (asSl 1 p0).bind fun es0 => (asStr p1).bind fun s1 => L.run (ref05_Prefix_L2 L) (es0, s1, [], 0, ())
noncomputable def ref05_Prefix_M : List PV → Option PV
  | [p0, p1] => ref05_Prefix lpS p0 p1
  | _ => none
noncomputable def law05_IdentSections_L1 : (Int × Int × Int × Int × Int × List PV × Bytes × List PV × Unit) → (Int × Int × Int × Int × Int × List PV × Bytes × List PV × Unit → Option PV) → Option PV := fun s17 rec18 =>
 if decide (s17.snd.snd.snd.snd.fst < (↑s17.snd.snd.snd.snd.snd.snd.snd.fst.length : Int)) = true then
 if inRange s17.snd.snd.snd.snd.fst s17.snd.snd.snd.snd.snd.snd.snd.fst.length then
 s17.snd.snd.snd.snd.snd.snd.snd.fst[s17.snd.snd.snd.snd.fst.toNat]?.bind fun e19 =>
 rec18
 (s17.fst, s17.snd.fst, s17.snd.snd.fst, s17.snd.snd.snd.fst, IntKind.i64.wrap (s17.snd.snd.snd.snd.fst + 1),
 s17.snd.snd.snd.snd.snd.fst, s17.snd.snd.snd.snd.snd.snd.fst,
 s17.snd.snd.snd.snd.snd.snd.snd.fst.set s17.snd.snd.snd.snd.fst.toNat
 (PV.str [99, 104, 97, 110, 103, 101, 100]),
 ())
 else none
else
 (bif s17.fst == s17.snd.snd.fst then some (s17.snd.fst == s17.snd.snd.snd.fst) else some false).bind fun r20 =>
 (bif r20 then some (false == (s17.snd.snd.snd.fst == 0)) else some false).bind fun r21 =>
 if (!r21) = true then some (PV.bool false)
 else (law05_exampleHolds_M []).bind fun r22 => (Ab.asBool r22).bind fun b23 => some (PV.bool b23)
noncomputable def law05_IdentSections_L2 : (Int × Int × Int × Int × Int × List PV × Bytes × List PV × Unit) → (Int × Int × Int × Int × Int × List PV × Bytes × List PV × Unit → Option PV) → Option PV := fun s29 rec30 =>
 if decide (s29.snd.snd.snd.snd.fst < (↑s29.snd.snd.snd.snd.snd.snd.snd.fst.length : Int)) = true then
 if inRange s29.snd.snd.snd.snd.fst s29.snd.snd.snd.snd.snd.snd.snd.fst.length then
 s29.snd.snd.snd.snd.snd.snd.snd.fst[s29.snd.snd.snd.snd.fst.toNat]?.bind fun e31 =>
 rec30
 (s29.fst, s29.snd.fst, s29.snd.snd.fst, s29.snd.snd.snd.fst, IntKind.i64.wrap (s29.snd.snd.snd.snd.fst + 1),
 s29.snd.snd.snd.snd.snd.fst, s29.snd.snd.snd.snd.snd.snd.fst,
 s29.snd.snd.snd.snd.snd.snd.snd.fst.set s29.snd.snd.snd.snd.fst.toNat
 (PV.str [99, 104, 97, 110, 103, 101, 100]),
 ())
 else none
else
 (bif s29.fst == s29.snd.snd.fst then some (s29.snd.fst == s29.snd.snd.snd.fst) else some false).bind fun r32 =>
 (bif r32 then some (false == (s29.snd.snd.snd.fst == 0)) else some false).bind fun r33 =>
 if (!r33) = true then some (PV.bool false)
 else (law05_exampleHolds_M []).bind fun r34 => (Ab.asBool r34).bind fun b35 => some (PV.bool b35)
noncomputable def law05_IdentSections_L3 : (Int × Int × Int × Int × Int × List PV × Bytes × List PV × List PV × List (PV × PV) × List PV × Unit) → (Int × Int × Int × Int × Int × List PV × Bytes × List PV × List PV × List (PV × PV) × List PV × Unit → Option PV) → Option PV := fun s45 rec46 =>
 if decide (s45.snd.snd.snd.snd.fst < (↑s45.snd.snd.snd.snd.snd.snd.snd.fst.length : Int)) = true then
 if inRange s45.snd.snd.snd.snd.fst s45.snd.snd.snd.snd.snd.snd.snd.fst.length then
 s45.snd.snd.snd.snd.snd.snd.snd.fst[s45.snd.snd.snd.snd.fst.toNat]?.bind fun e47 =>
 rec46
 (s45.fst, s45.snd.fst, s45.snd.snd.fst, s45.snd.snd.snd.fst, IntKind.i64.wrap (s45.snd.snd.snd.snd.fst + 1),
 s45.snd.snd.snd.snd.snd.fst, s45.snd.snd.snd.snd.snd.snd.fst,
 s45.snd.snd.snd.snd.snd.snd.snd.fst.set s45.snd.snd.snd.snd.fst.toNat
 (PV.str [99, 104, 97, 110, 103, 101, 100]),
 s45.snd.snd.snd.snd.snd.snd.snd.snd.fst, s45.snd.snd.snd.snd.snd.snd.snd.snd.snd.fst,
 s45.snd.snd.snd.snd.snd.snd.snd.snd.snd.snd.fst, ())
 else none
else
 (bif s45.fst == s45.snd.snd.fst then some (s45.snd.fst == s45.snd.snd.snd.fst) else some false).bind fun r48 =>
 (bif r48 then some (true == (s45.snd.snd.snd.fst == 0)) else some false).bind fun r49 =>
 if (!r49) = true then some (PV.bool false)
 else
 (ident_Table_Sorted_M
 [PV.rp
 [PV.rs 1 s45.snd.snd.snd.snd.snd.snd.snd.snd.fst,
 PV.rm 9 (List.map (fun x => x.fst) s45.snd.snd.snd.snd.snd.snd.snd.snd.snd.fst)
 (List.map (fun x => x.snd) s45.snd.snd.snd.snd.snd.snd.snd.snd.snd.fst),
 PV.rs 1 s45.snd.snd.snd.snd.snd.snd.snd.snd.snd.snd.fst]]).bind
 fun r50 =>
 (asSl 1 r50).bind fun es51 =>
 (ref05_Prefix_M [PV.rs 1 s45.snd.snd.snd.snd.snd.fst, PV.str []]).bind fun r52 =>
 (asSl 1 r52).bind fun es53 =>
 (law05_same_M [PV.rs 1 (List.map scalP es51), PV.rs 1 es53]).bind fun r54 =>
 (Ab.asBool r54).bind fun b55 =>
 bif sameB true b55 then
 (ident_Table_Prefix_M
 [PV.rp
 [PV.rs 1 s45.snd.snd.snd.snd.snd.snd.snd.snd.fst,
 PV.rm 9 (List.map (fun x => x.fst) s45.snd.snd.snd.snd.snd.snd.snd.snd.snd.fst)
 (List.map (fun x => x.snd) s45.snd.snd.snd.snd.snd.snd.snd.snd.snd.fst),
 PV.rs 1 s45.snd.snd.snd.snd.snd.snd.snd.snd.snd.snd.fst],
 PV.str s45.snd.snd.snd.snd.snd.snd.fst]).bind
 fun r56 =>
 (asSl 1 r56).bind fun es57 =>
 (ref05_Prefix_M
 [PV.rs 1 s45.snd.snd.snd.snd.snd.fst, PV.str s45.snd.snd.snd.snd.snd.snd.fst]).bind
 fun r58 =>
 (asSl 1 r58).bind fun es59 =>
 (law05_same_M [PV.rs 1 (List.map scalP es57), PV.rs 1 es59]).bind fun r60 =>
 (Ab.asBool r60).bind fun b61 =>
 if b55 = true then
 (bif b61 then
 (law05_exampleHolds_M []).bind fun r62 =>
 (Ab.asBool r62).bind fun b63 => some b63
 else some false).bind
 fun r64 => some (PV.bool r64)
 else some (PV.bool false)
 else if b55 = true then none else some (PV.bool false)
noncomputable def law05_IdentSections_L4 (L : Lps) : (Int × Int × List PV × List PV × Bytes × List PV × List PV × List (PV × PV) × List PV × Unit) → (Int × Int × List PV × List PV × Bytes × List PV × List PV × List (PV × PV) × List PV × Unit → Option PV) → Option PV := fun s38 rec39 =>
 if decide (s38.snd.fst < s38.fst) = true then
 if (s38.snd.snd.snd.snd.snd.snd.snd.snd.fst ++ [PV.int IntKind.i64 s38.snd.fst]).length * 8 ≤ roomBound ∧ 0 < 8 then
 rec39
 (s38.fst, IntKind.i64.wrap (s38.snd.fst + 1), s38.snd.snd.fst, s38.snd.snd.snd.fst, s38.snd.snd.snd.snd.fst,
 s38.snd.snd.snd.snd.snd.fst, s38.snd.snd.snd.snd.snd.snd.fst, s38.snd.snd.snd.snd.snd.snd.snd.fst,
 s38.snd.snd.snd.snd.snd.snd.snd.snd.fst ++ [PV.int IntKind.i64 s38.snd.fst], ())
 else none
else
 if 1 = 1 ∧ s38.snd.snd.snd.snd.snd.snd.snd.snd.fst.length ≤ roomBound then
 (sortS
 (fun c a b =>
 ident_New_1_M
 [a, b,
 PV.rp
 [PV.rp
 [PV.rs 1 s38.snd.snd.snd.snd.snd.snd.fst,
 PV.rm 9 (List.map (fun x => x.fst) s38.snd.snd.snd.snd.snd.snd.snd.fst)
 (List.map (fun x => x.snd) s38.snd.snd.snd.snd.snd.snd.snd.fst),
 PV.rs 1 c]]])
 s38.snd.snd.snd.snd.snd.snd.snd.snd.fst).bind
 fun es'40 =>
 (ref05_Unique_M [PV.rs 1 s38.snd.snd.fst]).bind fun r41 =>
 (asTup 2 r41).bind fun vs42 =>
 (Ab.asInt IntKind.i64 (vs42.getD 0 PV.bad)).bind fun n43 =>
 (Ab.asInt IntKind.i64 (vs42.getD 1 PV.bad)).bind fun n44 =>
 L.run law05_IdentSections_L3
 (0, 0, n43, n44, 0, s38.snd.snd.snd.fst, s38.snd.snd.snd.snd.fst, s38.snd.snd.snd.snd.snd.fst,
 s38.snd.snd.snd.snd.snd.snd.fst, s38.snd.snd.snd.snd.snd.snd.snd.fst, es'40, ())
 else none
noncomputable def law05_IdentSections_L5 (L : Lps) : (Int × Int × List PV × List PV × Bytes × List (PV × PV) × List PV × Unit) → (Int × Int × List PV × List PV × Bytes × List (PV × PV) × List PV × Unit → Option PV) → Option PV := fun s7 rec8 =>
 if decide (s7.snd.fst < s7.fst) = true then
 if inRange s7.snd.fst s7.snd.snd.snd.snd.snd.snd.fst.length then
 s7.snd.snd.snd.snd.snd.snd.fst[s7.snd.fst.toNat]?.bind fun e9 =>
 (asStr (cell e9 0)).bind fun s10 =>
 (ident_Valid_M [PV.str s10]).bind fun r11 =>
 (Ab.asBool r11).bind fun b12 =>
 if (!b12) = true then
 (ref05_Unique_M [PV.rs 1 s7.snd.snd.fst]).bind fun r13 =>
 (asTup 2 r13).bind fun vs14 =>
 (Ab.asInt IntKind.i64 (vs14.getD 0 PV.bad)).bind fun n15 =>
 (Ab.asInt IntKind.i64 (vs14.getD 1 PV.bad)).bind fun n16 =>
 L.run law05_IdentSections_L1
 (s7.snd.fst, 12, n15, n16, 0, s7.snd.snd.snd.fst, s7.snd.snd.snd.snd.fst,
 s7.snd.snd.snd.snd.snd.snd.fst, ())
 else
 (Ab.asInt IntKind.i64 (mlook (PV.str s10) (PV.int IntKind.i64 0) s7.snd.snd.snd.snd.snd.fst)).bind
 fun n24 =>
 if mhas (PV.str s10) s7.snd.snd.snd.snd.snd.fst = true then
 (ref05_Unique_M [PV.rs 1 s7.snd.snd.fst]).bind fun r25 =>
 (asTup 2 r25).bind fun vs26 =>
 (Ab.asInt IntKind.i64 (vs26.getD 0 PV.bad)).bind fun n27 =>
 (Ab.asInt IntKind.i64 (vs26.getD 1 PV.bad)).bind fun n28 =>
 L.run law05_IdentSections_L2
 (s7.snd.fst, 6, n27, n28, 0, s7.snd.snd.snd.fst, s7.snd.snd.snd.snd.fst,
 s7.snd.snd.snd.snd.snd.snd.fst, ())
 else
 rec8
 (s7.fst, IntKind.i64.wrap (s7.snd.fst + 1), s7.snd.snd.fst, s7.snd.snd.snd.fst,
 s7.snd.snd.snd.snd.fst,
 mput (PV.str s10) (PV.int IntKind.i64 s7.snd.fst) s7.snd.snd.snd.snd.snd.fst,
 s7.snd.snd.snd.snd.snd.snd.fst, ())
 else none
else
 (slices_Clone_string_string_M [PV.rs 1 s7.snd.snd.snd.snd.snd.snd.fst]).bind fun r36 =>
 (asSl 1 r36).bind fun es37 =>
 L.run (law05_IdentSections_L4 L)
 ((↑(List.map scalP es37).length : Int), 0, s7.snd.snd.fst, s7.snd.snd.snd.fst, s7.snd.snd.snd.snd.fst,
 s7.snd.snd.snd.snd.snd.snd.fst, List.map scalP es37, s7.snd.snd.snd.snd.snd.fst, [], ())
noncomputable def law05_IdentSections (L : Lps) (p0 : PV) (p1 : PV) : Option PV :=
 (asSl 1 p0).bind fun es0 =>
 (asStr p1).bind fun s1 =>
 (law05_small_M [PV.rs 1 es0]).bind fun r2 =>
 (Ab.asBool r2).bind fun b3 =>
 (bif !b3 then some true else some (decide ((↑(List.length s1) : Int) > 1024))).bind fun r4 =>
 if r4 = true then (law05_exampleHolds_M []).bind fun r5 => (Ab.asBool r5).bind fun b6 => some (PV.bool b6)
 else
 if ([] ++ es0).length * 16 ≤ roomBound ∧ 0 < 16 then
 L.run (law05_IdentSections_L5 L) ((↑([] ++ es0).length : Int), 0, es0, es0, s1, [], [] ++ es0, ())
 else none
noncomputable def law05_IdentSections_M : List PV → Option PV
  | [p0, p1] => law05_IdentSections lpS p0 p1
  | _ => none
noncomputable def law05_IdentOrders (L : Lps) (p0 : PV) (p1 : PV) (p2 : PV) : Option PV :=
 (asStr p0).bind fun s0 =>
 (asStr p1).bind fun s1 =>
 (asStr p2).bind fun s2 =>
 (bif decide ((↑(List.length s0) : Int) > 4096) then some true
 else some (decide ((↑(List.length s1) : Int) > 4096))).bind
 fun r3 =>
 (bif r3 then some true else some (decide ((↑(List.length s2) : Int) > 4096))).bind fun r4 =>
 if r4 = true then (law05_exampleHolds_M []).bind fun r5 => (Ab.asBool r5).bind fun b6 => some (PV.bool b6)
 else
 (ident_Compare_M [PV.str s0, PV.str s1]).bind fun r7 =>
 (Ab.asInt IntKind.i64 r7).bind fun n8 =>
 (ident_Compare_M [PV.str s1, PV.str s2]).bind fun r9 =>
 (Ab.asInt IntKind.i64 r9).bind fun n10 =>
 (ident_Compare_M [PV.str s0, PV.str s2]).bind fun r11 =>
 (Ab.asInt IntKind.i64 r11).bind fun n12 =>
 (bif decide (n8 < -1) then some true else some (decide (n8 > 1))).bind fun r13 =>
 (bif r13 then some true else some !(n8 == 0) == (s0 == s1)).bind fun r14 =>
 (bif r14 then some true
 else
 (ident_Compare_M [PV.str s1, PV.str s0]).bind fun r15 =>
 (Ab.asInt IntKind.i64 r15).bind fun n16 =>
 some (n16 != IntKind.i64.wrap (0 - n8))).bind
 fun r17 =>
 if r17 = true then some (PV.bool false)
 else
 (bif decide (n8 > 0) then some true else some (decide (n10 > 0))).bind fun r18 =>
 (bif r18 then some true else some (decide (n12 ≤ 0))).bind fun r19 =>
 (bif r19 then
 (law05_exampleHolds_M []).bind fun r20 =>
 (Ab.asBool r20).bind fun b21 => some b21
 else some false).bind
 fun r22 => some (PV.bool r22)
noncomputable def law05_IdentOrders_M : List PV → Option PV
  | [p0, p1, p2] => law05_IdentOrders lpS p0 p1 p2
  | _ => none
noncomputable def law05_rises_L1 : (List PV × Int × Unit) → (List PV × Int × Unit → Option PV) → Option PV := fun s1 rec2 =>
 if decide (s1.snd.fst < (↑s1.fst.length : Int)) = true then
 (idxP s1.fst s1.snd.fst).bind fun p3 =>
 (Ab.asInt IntKind.i64 (cell p3 0)).bind fun n4 =>
 (ident_Table_Name_M [PV.nilp, PV.int IntKind.i64 n4]).bind fun r5 =>
 (asTup 2 r5).bind fun vs6 =>
 (asStr (vs6.getD 0 PV.bad)).bind fun s7 =>
 (Ab.asBool (vs6.getD 1 PV.bad)).bind fun b8 =>
 if (!b8) = true then some (PV.bool false)
 else
 if (s1.snd.fst == 0) = true then rec2 (s1.fst, IntKind.i64.wrap (s1.snd.fst + 1), ())
 else
 (idxP s1.fst (IntKind.i64.wrap (s1.snd.fst - 1))).bind fun p9 =>
 (Ab.asInt IntKind.i64 (cell p9 0)).bind fun n10 =>
 (ident_Table_Name_M [PV.nilp, PV.int IntKind.i64 n10]).bind fun r11 =>
 (asTup 2 r11).bind fun vs12 =>
 (asStr (vs12.getD 0 PV.bad)).bind fun s13 =>
 (Ab.asBool (vs12.getD 1 PV.bad)).bind fun b14 =>
 (ident_Compare_M [PV.str s13, PV.str s7]).bind fun r15 =>
 (Ab.asInt IntKind.i64 r15).bind fun n16 =>
 if (n16 != -1) = true then some (PV.bool false)
 else rec2 (s1.fst, IntKind.i64.wrap (s1.snd.fst + 1), ())
else some (PV.bool true)
noncomputable def law05_rises_L2 : (PV × List PV × Int × Unit) → (PV × List PV × Int × Unit → Option PV) → Option PV := fun s21 rec22 =>
 if decide (s21.snd.snd.fst < (↑s21.snd.fst.length : Int)) = true then
 (idxP s21.snd.fst s21.snd.snd.fst).bind fun p23 =>
 (Ab.asInt IntKind.i64 (cell p23 0)).bind fun n24 =>
 (ident_Table_Name_M [PV.rp [cell s21.fst 0, cell s21.fst 1, cell s21.fst 2], PV.int IntKind.i64 n24]).bind
 fun r25 =>
 (asTup 2 r25).bind fun vs26 =>
 (asStr (vs26.getD 0 PV.bad)).bind fun s27 =>
 (Ab.asBool (vs26.getD 1 PV.bad)).bind fun b28 =>
 if (!b28) = true then some (PV.bool false)
 else
 if (s21.snd.snd.fst == 0) = true then
 rec22
 (PV.agg [cell s21.fst 0, cell s21.fst 1, cell s21.fst 2], s21.snd.fst,
 IntKind.i64.wrap (s21.snd.snd.fst + 1), ())
 else
 (idxP s21.snd.fst (IntKind.i64.wrap (s21.snd.snd.fst - 1))).bind fun p29 =>
 (Ab.asInt IntKind.i64 (cell p29 0)).bind fun n30 =>
 (ident_Table_Name_M
 [PV.rp [cell s21.fst 0, cell s21.fst 1, cell s21.fst 2], PV.int IntKind.i64 n30]).bind
 fun r31 =>
 (asTup 2 r31).bind fun vs32 =>
 (asStr (vs32.getD 0 PV.bad)).bind fun s33 =>
 (Ab.asBool (vs32.getD 1 PV.bad)).bind fun b34 =>
 (ident_Compare_M [PV.str s33, PV.str s27]).bind fun r35 =>
 (Ab.asInt IntKind.i64 r35).bind fun n36 =>
 if (n36 != -1) = true then some (PV.bool false)
 else
 rec22
 (PV.agg [cell s21.fst 0, cell s21.fst 1, cell s21.fst 2], s21.snd.fst,
 IntKind.i64.wrap (s21.snd.snd.fst + 1), ())
else some (PV.bool true)
noncomputable def law05_rises (L : Lps) (p0 : PV) (p1 : PV) : Option PV :=
 ptrCase 3 p0 ((asSl 1 p1).bind fun es0 => L.run law05_rises_L1 (es0, 0, ())) fun q17 =>
 (asSl 1 (cell q17 0)).bind fun es18 =>
 (asSl 1 (cell q17 2)).bind fun es19 =>
 (asSl 1 p1).bind fun es20 => L.run law05_rises_L2 (PV.agg [PV.rs 1 es18, cell q17 1, PV.rs 1 es19], es20, 0, ())
noncomputable def law05_rises_M : List PV → Option PV
  | [p0, p1] => law05_rises lpS p0 p1
  | _ => none
noncomputable def law05_IdentTable_L1 : (List PV × Bytes × Int × List PV × List (PV × PV) × List PV × Unit) → (List PV × Bytes × Int × List PV × List (PV × PV) × List PV × Unit → Option PV) → Option PV := fun s25 rec26 =>
 if decide (s25.snd.snd.fst < (↑s25.fst.length : Int)) = true then
 (ident_Table_Name_M
 [PV.rp
 [PV.rs 1 s25.snd.snd.snd.fst,
 PV.rm 9 (List.map (fun x => x.fst) s25.snd.snd.snd.snd.fst)
 (List.map (fun x => x.snd) s25.snd.snd.snd.snd.fst),
 PV.rs 1 s25.snd.snd.snd.snd.snd.fst],
 PV.int IntKind.i64 s25.snd.snd.fst]).bind
 fun r27 =>
 (asTup 2 r27).bind fun vs28 =>
 (asStr (vs28.getD 0 PV.bad)).bind fun s29 =>
 (Ab.asBool (vs28.getD 1 PV.bad)).bind fun b30 =>
 (ident_Table_Find_M
 [PV.rp
 [PV.rs 1 s25.snd.snd.snd.fst,
 PV.rm 9 (List.map (fun x => x.fst) s25.snd.snd.snd.snd.fst)
 (List.map (fun x => x.snd) s25.snd.snd.snd.snd.fst),
 PV.rs 1 s25.snd.snd.snd.snd.snd.fst],
 PV.str s29]).bind
 fun r31 =>
 (asTup 2 r31).bind fun vs32 =>
 (Ab.asInt IntKind.i64 (vs32.getD 0 PV.bad)).bind fun n33 =>
 (Ab.asBool (vs32.getD 1 PV.bad)).bind fun b34 =>
 (bif !b30 then some true else some !b34).bind fun r35 =>
 (bif r35 then some true
 else
 (idxP s25.fst s25.snd.snd.fst).bind fun p36 =>
 (asStr (cell p36 0)).bind fun s37 => some !s29 == s37).bind
 fun r38 =>
 (bif r38 then some true else some (n33 != s25.snd.snd.fst)).bind fun r39 =>
 if r39 = true then some (PV.bool false)
 else
 rec26
 (s25.fst, s25.snd.fst, IntKind.i64.wrap (s25.snd.snd.fst + 1), s25.snd.snd.snd.fst,
 s25.snd.snd.snd.snd.fst, s25.snd.snd.snd.snd.snd.fst, ())
else
 (ident_Table_Find_M
 [PV.rp
 [PV.rs 1 s25.snd.snd.snd.fst,
 PV.rm 9 (List.map (fun x => x.fst) s25.snd.snd.snd.snd.fst)
 (List.map (fun x => x.snd) s25.snd.snd.snd.snd.fst),
 PV.rs 1 s25.snd.snd.snd.snd.snd.fst],
 PV.str s25.snd.fst]).bind
 fun r40 =>
 (asTup 2 r40).bind fun vs41 =>
 (Ab.asInt IntKind.i64 (vs41.getD 0 PV.bad)).bind fun n42 =>
 (Ab.asBool (vs41.getD 1 PV.bad)).bind fun b43 =>
 (ident_Table_Name_M
 [PV.rp
 [PV.rs 1 s25.snd.snd.snd.fst,
 PV.rm 9 (List.map (fun x => x.fst) s25.snd.snd.snd.snd.fst)
 (List.map (fun x => x.snd) s25.snd.snd.snd.snd.fst),
 PV.rs 1 s25.snd.snd.snd.snd.snd.fst],
 PV.int IntKind.i64 n42]).bind
 fun r44 =>
 (asTup 2 r44).bind fun vs45 =>
 (asStr (vs45.getD 0 PV.bad)).bind fun s46 =>
 (Ab.asBool (vs45.getD 1 PV.bad)).bind fun b47 =>
 (bif b43 then (bif !b47 then some true else some !s46 == s25.snd.fst).bind fun r48 => some r48
 else some false).bind
 fun r49 =>
 if r49 = true then some (PV.bool false)
 else
 (ident_Table_Sorted_M
 [PV.rp
 [PV.rs 1 s25.snd.snd.snd.fst,
 PV.rm 9 (List.map (fun x => x.fst) s25.snd.snd.snd.snd.fst)
 (List.map (fun x => x.snd) s25.snd.snd.snd.snd.fst),
 PV.rs 1 s25.snd.snd.snd.snd.snd.fst]]).bind
 fun r50 =>
 (asSl 1 r50).bind fun es51 =>
 (law05_rises_M
 [PV.rp
 [PV.rs 1 s25.snd.snd.snd.fst,
 PV.rm 9 (List.map (fun x => x.fst) s25.snd.snd.snd.snd.fst)
 (List.map (fun x => x.snd) s25.snd.snd.snd.snd.fst),
 PV.rs 1 s25.snd.snd.snd.snd.snd.fst],
 PV.rs 1 (List.map scalP es51)]).bind
 fun r52 =>
 (Ab.asBool r52).bind fun b53 =>
 bif sameB true b53 then
 (ident_Table_Sorted_M
 [PV.rp
 [PV.rs 1 s25.snd.snd.snd.fst,
 PV.rm 9 (List.map (fun x => x.fst) s25.snd.snd.snd.snd.fst)
 (List.map (fun x => x.snd) s25.snd.snd.snd.snd.fst),
 PV.rs 1 s25.snd.snd.snd.snd.snd.fst]]).bind
 fun r54 =>
 (asSl 1 r54).bind fun es55 =>
 if b53 = true then
 (bif (↑(List.map scalP es55).length : Int) == (↑s25.fst.length : Int) then
 (law05_exampleHolds_M []).bind fun r56 =>
 (Ab.asBool r56).bind fun b57 => some b57
 else some false).bind
 fun r58 => some (PV.bool r58)
 else some (PV.bool false)
 else if b53 = true then none else some (PV.bool false)
noncomputable def law05_IdentTable_L2 (L : Lps) : (Int × Int × List PV × Bytes × List PV × List (PV × PV) × List PV × Unit) → (Int × Int × List PV × Bytes × List PV × List (PV × PV) × List PV × Unit → Option PV) → Option PV := fun s22 rec23 =>
 if decide (s22.snd.fst < s22.fst) = true then
 if (s22.snd.snd.snd.snd.snd.snd.fst ++ [PV.int IntKind.i64 s22.snd.fst]).length * 8 ≤ roomBound ∧ 0 < 8 then
 rec23
 (s22.fst, IntKind.i64.wrap (s22.snd.fst + 1), s22.snd.snd.fst, s22.snd.snd.snd.fst, s22.snd.snd.snd.snd.fst,
 s22.snd.snd.snd.snd.snd.fst, s22.snd.snd.snd.snd.snd.snd.fst ++ [PV.int IntKind.i64 s22.snd.fst], ())
 else none
else
 if 1 = 1 ∧ s22.snd.snd.snd.snd.snd.snd.fst.length ≤ roomBound then
 (sortS
 (fun c a b =>
 ident_New_1_M
 [a, b,
 PV.rp
 [PV.rp
 [PV.rs 1 s22.snd.snd.snd.snd.fst,
 PV.rm 9 (List.map (fun x => x.fst) s22.snd.snd.snd.snd.snd.fst)
 (List.map (fun x => x.snd) s22.snd.snd.snd.snd.snd.fst),
 PV.rs 1 c]]])
 s22.snd.snd.snd.snd.snd.snd.fst).bind
 fun es'24 =>
 L.run law05_IdentTable_L1
 (s22.snd.snd.fst, s22.snd.snd.snd.fst, 0, s22.snd.snd.snd.snd.fst, s22.snd.snd.snd.snd.snd.fst, es'24, ())
 else none
noncomputable def law05_IdentTable_L3 (L : Lps) : (List PV × Int × Int × List PV × List PV × Bytes × List (PV × PV) × Unit) → (List PV × Int × Int × List PV × List PV × Bytes × List (PV × PV) × Unit → Option PV) → Option PV := fun s7 rec8 =>
 if decide (s7.snd.snd.fst < s7.snd.fst) = true then
 (idxP s7.fst s7.snd.snd.fst).bind fun p9 =>
 (asStr (cell p9 0)).bind fun s10 =>
 (ident_Valid_M [PV.str s10]).bind fun r11 =>
 (Ab.asBool r11).bind fun b12 =>
 if (!b12) = true then
 ((law05_exampleHolds_M []).bind fun r13 => (Ab.asBool r13).bind fun b14 => some b14).bind fun r15 =>
 some (PV.bool r15)
 else
 (Ab.asInt IntKind.i64 (mlook (PV.str s10) (PV.int IntKind.i64 0) s7.snd.snd.snd.snd.snd.snd.fst)).bind
 fun n16 =>
 if mhas (PV.str s10) s7.snd.snd.snd.snd.snd.snd.fst = true then
 ((law05_exampleHolds_M []).bind fun r17 => (Ab.asBool r17).bind fun b18 => some b18).bind fun r19 =>
 some (PV.bool r19)
 else
 rec8
 (s7.fst, s7.snd.fst, IntKind.i64.wrap (s7.snd.snd.fst + 1), s7.snd.snd.snd.fst,
 s7.snd.snd.snd.snd.fst, s7.snd.snd.snd.snd.snd.fst,
 mput (PV.str s10) (PV.int IntKind.i64 s7.snd.snd.fst) s7.snd.snd.snd.snd.snd.snd.fst, ())
else
 (slices_Clone_string_string_M [PV.rs 1 s7.snd.snd.snd.fst]).bind fun r20 =>
 (asSl 1 r20).bind fun es21 =>
 L.run (law05_IdentTable_L2 L)
 ((↑(List.map scalP es21).length : Int), 0, s7.snd.snd.snd.snd.fst, s7.snd.snd.snd.snd.snd.fst,
 List.map scalP es21, s7.snd.snd.snd.snd.snd.snd.fst, [], ())
noncomputable def law05_IdentTable (L : Lps) (p0 : PV) (p1 : PV) : Option PV :=
 (asSl 1 p0).bind fun es0 =>
 (asStr p1).bind fun s1 =>
 (law05_small_M [PV.rs 1 es0]).bind fun r2 =>
 (Ab.asBool r2).bind fun b3 =>
 (bif !b3 then some true else some (decide ((↑(List.length s1) : Int) > 1024))).bind fun r4 =>
 if r4 = true then (law05_exampleHolds_M []).bind fun r5 => (Ab.asBool r5).bind fun b6 => some (PV.bool b6)
 else L.run (law05_IdentTable_L3 L) (es0, (↑es0.length : Int), 0, es0, es0, s1, [], ())
noncomputable def law05_IdentTable_M : List PV → Option PV
  | [p0, p1] => law05_IdentTable lpS p0 p1
  | _ => none
noncomputable def law05_IdentNils (L : Lps) (p0 : PV) (p1 : PV) : Option PV :=
 (asStr p0).bind fun s0 =>
 (Ab.asInt IntKind.i64 p1).bind fun n1 =>
 (ident_Table_Find_M [PV.nilp, PV.str s0]).bind fun r2 =>
 (asTup 2 r2).bind fun vs3 =>
 (Ab.asInt IntKind.i64 (vs3.getD 0 PV.bad)).bind fun n4 =>
 (Ab.asBool (vs3.getD 1 PV.bad)).bind fun b5 =>
 (ident_Table_Name_M [PV.nilp, PV.int IntKind.i64 n1]).bind fun r6 =>
 (asTup 2 r6).bind fun vs7 =>
 (asStr (vs7.getD 0 PV.bad)).bind fun s8 =>
 (Ab.asBool (vs7.getD 1 PV.bad)).bind fun b9 =>
 (bif n4 == 0 then some !b5 else some false).bind fun r10 =>
 (bif r10 then some (s8 == []) else some false).bind fun r11 =>
 (bif r11 then some !b9 else some false).bind fun r12 =>
 (bif r12 then
 (ident_Table_Len_M [PV.nilp]).bind fun r13 =>
 (Ab.asInt IntKind.i64 r13).bind fun n14 => some (n14 == 0)
 else some false).bind
 fun r15 =>
 bif sameB true r15 then
 (ident_Table_Sorted_M [PV.nilp]).bind fun r16 =>
 (asSl 1 r16).bind fun es17 =>
 if r15 = true then
 bif sameB true ((↑(List.map scalP es17).length : Int) == 0) then
 (ident_Table_Prefix_M [PV.nilp, PV.str s0]).bind fun r18 =>
 (asSl 1 r18).bind fun es19 =>
 if ((↑(List.map scalP es17).length : Int) == 0) = true then
 (bif (↑(List.map scalP es19).length : Int) == 0 then
 (law05_exampleHolds_M []).bind fun r20 =>
 (Ab.asBool r20).bind fun b21 => some b21
 else some false).bind
 fun r22 => some (PV.bool r22)
 else some (PV.bool false)
 else
 if ((↑(List.map scalP es17).length : Int) == 0) = true then none
 else some (PV.bool false)
 else some (PV.bool false)
 else if r15 = true then none else some (PV.bool false)
noncomputable def law05_IdentNils_M : List PV → Option PV
  | [p0, p1] => law05_IdentNils lpS p0 p1
  | _ => none
noncomputable def law05_section_L1 (L : Lps) : (List PV × List PV × Int × Unit) → (List PV × List PV × Int × Unit → Option PV) → Option PV := fun s2 rec3 =>
 if decide (IntKind.i64.wrap (s2.snd.snd.fst + (↑s2.snd.fst.length : Int)) ≤ (↑s2.fst.length : Int)) = true then
 if
 0 ≤ s2.snd.snd.fst ∧
 s2.snd.snd.fst ≤ IntKind.i64.wrap (s2.snd.snd.fst + (↑s2.snd.fst.length : Int)) ∧
 IntKind.i64.wrap (s2.snd.snd.fst + (↑s2.snd.fst.length : Int)) ≤ (↑s2.fst.length : Int) ∧ 1 = 1 ∧ 1 ≠ 0 then
 (law05_same_M
 [PV.rs 1
 (List.drop s2.snd.snd.fst.toNat
 (List.take (IntKind.i64.wrap (s2.snd.snd.fst + (↑s2.snd.fst.length : Int))).toNat s2.fst)),
 PV.rs 1 s2.snd.fst]).bind
 fun r4 =>
 (Ab.asBool r4).bind fun b5 =>
 if b5 = true then some (PV.bool true) else rec3 (s2.fst, s2.snd.fst, IntKind.i64.wrap (s2.snd.snd.fst + 1), ())
 else none
else some (PV.bool false)
noncomputable def law05_section (L : Lps) (p0 : PV) (p1 : PV) : Option PV :=
 (asSl 1 p0).bind fun es0 => (asSl 1 p1).bind fun es1 => L.run (law05_section_L1 L) (es0, es1, 0, ())
noncomputable def law05_section_M : List PV → Option PV
  | [p0, p1] => law05_section lpS p0 p1
  | _ => none
noncomputable def law05_IdentNarrows_L1 (L : Lps) : (Int × Int × Bytes × Bytes × List PV × List (PV × PV) × List PV × Unit) → (Int × Int × Bytes × Bytes × List PV × List (PV × PV) × List PV × Unit → Option PV) → Option PV := fun s24 rec25 =>
 if decide (s24.snd.fst < s24.fst) = true then
 if (s24.snd.snd.snd.snd.snd.snd.fst ++ [PV.int IntKind.i64 s24.snd.fst]).length * 8 ≤ roomBound ∧ 0 < 8 then
 rec25
 (s24.fst, IntKind.i64.wrap (s24.snd.fst + 1), s24.snd.snd.fst, s24.snd.snd.snd.fst, s24.snd.snd.snd.snd.fst,
 s24.snd.snd.snd.snd.snd.fst, s24.snd.snd.snd.snd.snd.snd.fst ++ [PV.int IntKind.i64 s24.snd.fst], ())
 else none
else
 if 1 = 1 ∧ s24.snd.snd.snd.snd.snd.snd.fst.length ≤ roomBound then
 (sortS
 (fun c a b =>
 ident_New_1_M
 [a, b,
 PV.rp
 [PV.rp
 [PV.rs 1 s24.snd.snd.snd.snd.fst,
 PV.rm 9 (List.map (fun x => x.fst) s24.snd.snd.snd.snd.snd.fst)
 (List.map (fun x => x.snd) s24.snd.snd.snd.snd.snd.fst),
 PV.rs 1 c]]])
 s24.snd.snd.snd.snd.snd.snd.fst).bind
 fun es'26 =>
 (ident_Table_Sorted_M
 [PV.rp
 [PV.rs 1 s24.snd.snd.snd.snd.fst,
 PV.rm 9 (List.map (fun x => x.fst) s24.snd.snd.snd.snd.snd.fst)
 (List.map (fun x => x.snd) s24.snd.snd.snd.snd.snd.fst),
 PV.rs 1 es'26]]).bind
 fun r27 =>
 (asSl 1 r27).bind fun es28 =>
 (ident_Table_Prefix_M
 [PV.rp
 [PV.rs 1 s24.snd.snd.snd.snd.fst,
 PV.rm 9 (List.map (fun x => x.fst) s24.snd.snd.snd.snd.snd.fst)
 (List.map (fun x => x.snd) s24.snd.snd.snd.snd.snd.fst),
 PV.rs 1 es'26],
 PV.str s24.snd.snd.fst]).bind
 fun r29 =>
 (asSl 1 r29).bind fun es30 =>
 (law05_section_M [PV.rs 1 (List.map scalP es28), PV.rs 1 (List.map scalP es30)]).bind fun r31 =>
 (Ab.asBool r31).bind fun b32 =>
 bif sameB true b32 then
 (ident_Table_Prefix_M
 [PV.rp
 [PV.rs 1 s24.snd.snd.snd.snd.fst,
 PV.rm 9 (List.map (fun x => x.fst) s24.snd.snd.snd.snd.snd.fst)
 (List.map (fun x => x.snd) s24.snd.snd.snd.snd.snd.fst),
 PV.rs 1 es'26],
 PV.str s24.snd.snd.fst]).bind
 fun r33 =>
 (asSl 1 r33).bind fun es34 =>
 if
 (↑(List.length s24.snd.snd.fst + List.length s24.snd.snd.snd.fst) : Int) >
 IntKind.i64.max then
 none
 else
 (ident_Table_Prefix_M
 [PV.rp
 [PV.rs 1 s24.snd.snd.snd.snd.fst,
 PV.rm 9 (List.map (fun x => x.fst) s24.snd.snd.snd.snd.snd.fst)
 (List.map (fun x => x.snd) s24.snd.snd.snd.snd.snd.fst),
 PV.rs 1 es'26],
 PV.str (s24.snd.snd.fst ++ s24.snd.snd.snd.fst)]).bind
 fun r35 =>
 (asSl 1 r35).bind fun es36 =>
 (law05_section_M [PV.rs 1 (List.map scalP es34), PV.rs 1 (List.map scalP es36)]).bind
 fun r37 =>
 (Ab.asBool r37).bind fun b38 =>
 if b32 = true then
 (bif b38 then
 (law05_exampleHolds_M []).bind fun r39 =>
 (Ab.asBool r39).bind fun b40 => some b40
 else some false).bind
 fun r41 => some (PV.bool r41)
 else some (PV.bool false)
 else if b32 = true then none else some (PV.bool false)
 else none
noncomputable def law05_IdentNarrows_L2 (L : Lps) : (List PV × Int × Int × List PV × Bytes × Bytes × List (PV × PV) × Unit) → (List PV × Int × Int × List PV × Bytes × Bytes × List (PV × PV) × Unit → Option PV) → Option PV := fun s9 rec10 =>
 if decide (s9.snd.snd.fst < s9.snd.fst) = true then
 (idxP s9.fst s9.snd.snd.fst).bind fun p11 =>
 (asStr (cell p11 0)).bind fun s12 =>
 (ident_Valid_M [PV.str s12]).bind fun r13 =>
 (Ab.asBool r13).bind fun b14 =>
 if (!b14) = true then
 ((law05_exampleHolds_M []).bind fun r15 => (Ab.asBool r15).bind fun b16 => some b16).bind fun r17 =>
 some (PV.bool r17)
 else
 (Ab.asInt IntKind.i64 (mlook (PV.str s12) (PV.int IntKind.i64 0) s9.snd.snd.snd.snd.snd.snd.fst)).bind
 fun n18 =>
 if mhas (PV.str s12) s9.snd.snd.snd.snd.snd.snd.fst = true then
 ((law05_exampleHolds_M []).bind fun r19 => (Ab.asBool r19).bind fun b20 => some b20).bind fun r21 =>
 some (PV.bool r21)
 else
 rec10
 (s9.fst, s9.snd.fst, IntKind.i64.wrap (s9.snd.snd.fst + 1), s9.snd.snd.snd.fst,
 s9.snd.snd.snd.snd.fst, s9.snd.snd.snd.snd.snd.fst,
 mput (PV.str s12) (PV.int IntKind.i64 s9.snd.snd.fst) s9.snd.snd.snd.snd.snd.snd.fst, ())
else
 (slices_Clone_string_string_M [PV.rs 1 s9.snd.snd.snd.fst]).bind fun r22 =>
 (asSl 1 r22).bind fun es23 =>
 L.run (law05_IdentNarrows_L1 L)
 ((↑(List.map scalP es23).length : Int), 0, s9.snd.snd.snd.snd.fst, s9.snd.snd.snd.snd.snd.fst,
 List.map scalP es23, s9.snd.snd.snd.snd.snd.snd.fst, [], ())
noncomputable def law05_IdentNarrows (L : Lps) (p0 : PV) (p1 : PV) (p2 : PV) : Option PV :=
 (asSl 1 p0).bind fun es0 =>
 (asStr p1).bind fun s1 =>
 (asStr p2).bind fun s2 =>
 (law05_small_M [PV.rs 1 es0]).bind fun r3 =>
 (Ab.asBool r3).bind fun b4 =>
 (bif !b4 then some true else some (decide ((↑(List.length s1) : Int) > 512))).bind fun r5 =>
 (bif r5 then some true else some (decide ((↑(List.length s2) : Int) > 512))).bind fun r6 =>
 if r6 = true then (law05_exampleHolds_M []).bind fun r7 => (Ab.asBool r7).bind fun b8 => some (PV.bool b8)
 else L.run (law05_IdentNarrows_L2 L) (es0, (↑es0.length : Int), 0, es0, s1, s2, [], ())
noncomputable def law05_IdentNarrows_M : List PV → Option PV
  | [p0, p1, p2] => law05_IdentNarrows lpS p0 p1 p2
  | _ => none
end Go.Ab
