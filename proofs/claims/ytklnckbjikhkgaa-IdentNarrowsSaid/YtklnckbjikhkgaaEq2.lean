/- The plain Lean functions are what the evaluator makes of the program. Printed by a program of the author. -/
import Derived.Test.YtklnckbjikhkgaaTab
namespace Go.Ab
noncomputable def law05_exampleHolds_L1_G (m0 m1 m2 m3 m4 m5 m6 m7 m8 m9 m10 m11 m12 : List PV → Option PV) (L : Lps) : (Int × Int × Int × Int × Int × Int × List PV × List (PV × PV) × List PV × Unit) → (Int × Int × Int × Int × Int × Int × List PV × List (PV × PV) × List PV × Unit → Option PV) → Option PV := fun s17 rec18 =>
 if decide (s17.snd.fst < s17.fst) = true then
 if (s17.snd.snd.snd.snd.snd.snd.snd.snd.fst ++ [PV.int IntKind.i64 s17.snd.fst]).length * 8 ≤ roomBound ∧ 0 < 8 then
 rec18
 (s17.fst, IntKind.i64.wrap (s17.snd.fst + 1), s17.snd.snd.fst, s17.snd.snd.snd.fst, s17.snd.snd.snd.snd.fst,
 s17.snd.snd.snd.snd.snd.fst, s17.snd.snd.snd.snd.snd.snd.fst, s17.snd.snd.snd.snd.snd.snd.snd.fst,
 s17.snd.snd.snd.snd.snd.snd.snd.snd.fst ++ [PV.int IntKind.i64 s17.snd.fst], ())
 else none
else
 if 1 = 1 ∧ s17.snd.snd.snd.snd.snd.snd.snd.snd.fst.length ≤ roomBound then
 (sortS
 (fun c a b =>
 m7
 [a, b,
 PV.rp
 [PV.rp
 [PV.rs 1 s17.snd.snd.snd.snd.snd.snd.fst,
 PV.rm 9 (List.map (fun x => x.fst) s17.snd.snd.snd.snd.snd.snd.snd.fst)
 (List.map (fun x => x.snd) s17.snd.snd.snd.snd.snd.snd.snd.fst),
 PV.rs 1 c]]])
 s17.snd.snd.snd.snd.snd.snd.snd.snd.fst).bind
 fun es'19 =>
 (m5
 [PV.rp
 [PV.rs 1 s17.snd.snd.snd.snd.snd.snd.fst,
 PV.rm 9 (List.map (fun x => x.fst) s17.snd.snd.snd.snd.snd.snd.snd.fst)
 (List.map (fun x => x.snd) s17.snd.snd.snd.snd.snd.snd.snd.fst),
 PV.rs 1 es'19],
 PV.str [97]]).bind
 fun r20 =>
 (asTup 2 r20).bind fun vs21 =>
 (Ab.asInt IntKind.i64 (vs21.getD 0 PV.bad)).bind fun n22 =>
 (Ab.asBool (vs21.getD 1 PV.bad)).bind fun b23 =>
 (m3
 [PV.rp
 [PV.rs 1 s17.snd.snd.snd.snd.snd.snd.fst,
 PV.rm 9 (List.map (fun x => x.fst) s17.snd.snd.snd.snd.snd.snd.snd.fst)
 (List.map (fun x => x.snd) s17.snd.snd.snd.snd.snd.snd.snd.fst),
 PV.rs 1 es'19],
 PV.int IntKind.i64 1]).bind
 fun r24 =>
 (asTup 2 r24).bind fun vs25 =>
 (asStr (vs25.getD 0 PV.bad)).bind fun s26 =>
 (Ab.asBool (vs25.getD 1 PV.bad)).bind fun b27 =>
 (m5
 [PV.rp
 [PV.rs 1 s17.snd.snd.snd.snd.snd.snd.fst,
 PV.rm 9 (List.map (fun x => x.fst) s17.snd.snd.snd.snd.snd.snd.snd.fst)
 (List.map (fun x => x.snd) s17.snd.snd.snd.snd.snd.snd.snd.fst),
 PV.rs 1 es'19],
 PV.str [99]]).bind
 fun r28 =>
 (asTup 2 r28).bind fun vs29 =>
 (Ab.asInt IntKind.i64 (vs29.getD 0 PV.bad)).bind fun n30 =>
 (Ab.asBool (vs29.getD 1 PV.bad)).bind fun b31 =>
 (m6 [PV.str [83, 116, 111, 112, 45, 49, 46, 97]]).bind fun r32 =>
 (Ab.asBool r32).bind fun b33 =>
 (bif b33 then
 (m6 [PV.str [97, 32, 98]]).bind fun r34 =>
 (Ab.asBool r34).bind fun b35 => some !b35
 else some false).bind
 fun r36 =>
 (bif r36 then
 (m6 [PV.str []]).bind fun r37 =>
 (Ab.asBool r37).bind fun b38 => some !b38
 else some false).bind
 fun r39 =>
 (bif r39 then
 (m8 [PV.str [66], PV.str [97]]).bind fun r40 =>
 (Ab.asInt IntKind.i64 r40).bind fun n41 => some (n41 == -1)
 else some false).bind
 fun r42 =>
 (bif r42 then some (s17.snd.snd.fst == 2) else some false).bind fun r43 =>
 (bif r43 then some (s17.snd.snd.snd.fst == 6) else some false).bind fun r44 =>
 (bif r44 then some (s17.snd.snd.snd.snd.fst == 1) else some false).bind
 fun r45 =>
 (bif r45 then some (s17.snd.snd.snd.snd.snd.fst == 12)
 else some false).bind
 fun r46 =>
 (bif r46 then some (0 == 0) else some false).bind fun r47 =>
 (bif r47 then some (0 == 0) else some false).bind fun r48 =>
 (bif r48 then some (n22 == 2) else some false).bind fun r49 =>
 (bif r49 then some b23 else some false).bind fun r50 =>
 (bif r50 then some (s26 == [97, 46, 50]) else some false).bind
 fun r51 =>
 (bif r51 then some b27 else some false).bind fun r52 =>
 (bif r52 then some !b31 else some false).bind fun r53 =>
 (bif r53 then
 (m4
 [PV.rp
 [PV.rs 1 s17.snd.snd.snd.snd.snd.snd.fst,
 PV.rm 9
 (List.map (fun x => x.fst)
 s17.snd.snd.snd.snd.snd.snd.snd.fst)
 (List.map (fun x => x.snd)
 s17.snd.snd.snd.snd.snd.snd.snd.fst),
 PV.rs 1 es'19]]).bind
 fun r54 =>
 (Ab.asInt IntKind.i64 r54).bind fun n55 =>
 some (n55 == 3)
 else some false).bind
 fun r56 =>
 bif sameB true r56 then
 (m10
 [PV.rp
 [PV.rs 1 s17.snd.snd.snd.snd.snd.snd.fst,
 PV.rm 9
 (List.map (fun x => x.fst)
 s17.snd.snd.snd.snd.snd.snd.snd.fst)
 (List.map (fun x => x.snd)
 s17.snd.snd.snd.snd.snd.snd.snd.fst),
 PV.rs 1 es'19]]).bind
 fun r57 =>
 (asSl 1 r57).bind fun es58 =>
 (m0
 [PV.rs 1 (List.map scalP es58),
 PV.rs 1
 [PV.int IntKind.i64 2,
 PV.int IntKind.i64 1,
 PV.int IntKind.i64 0]]).bind
 fun r59 =>
 (Ab.asBool r59).bind fun b60 =>
 if r56 = true then
 bif sameB true b60 then
 (m12
 [PV.rp
 [PV.rs 1
 s17.snd.snd.snd.snd.snd.snd.fst,
 PV.rm 9
 (List.map (fun x => x.fst)
 s17.snd.snd.snd.snd.snd.snd.snd.fst)
 (List.map (fun x => x.snd)
 s17.snd.snd.snd.snd.snd.snd.snd.fst),
 PV.rs 1 es'19],
 PV.str [97]]).bind
 fun r61 =>
 (asSl 1 r61).bind fun es62 =>
 (m0
 [PV.rs 1 (List.map scalP es62),
 PV.rs 1
 [PV.int IntKind.i64 2,
 PV.int IntKind.i64
 1]]).bind
 fun r63 =>
 (Ab.asBool r63).bind fun b64 =>
 if b60 = true then
 some (PV.bool b64)
 else some (PV.bool false)
 else
 if b60 = true then some (PV.tup [])
 else some (PV.bool false)
 else some (PV.bool false)
 else if r56 = true then none else some (PV.bool false)
 else none
noncomputable def law05_exampleHolds_L2_G (m0 m1 m2 m3 m4 m5 m6 m7 m8 m9 m10 m11 m12 : List PV → Option PV) (L : Lps) : (Int × Int × Int × Int × Int × Int × List (PV × PV) × List PV × Unit) → (Int × Int × Int × Int × Int × Int × List (PV × PV) × List PV × Unit → Option PV) → Option PV := fun s8 rec9 =>
 if decide (s8.snd.fst < s8.fst) = true then
 if inRange s8.snd.fst s8.snd.snd.snd.snd.snd.snd.snd.fst.length then
 s8.snd.snd.snd.snd.snd.snd.snd.fst[s8.snd.fst.toNat]?.bind fun e10 =>
 (asStr (cell e10 0)).bind fun s11 =>
 (m6 [PV.str s11]).bind fun r12 =>
 (Ab.asBool r12).bind fun b13 =>
 if (!b13) = true then some (PV.bool false)
 else
 (Ab.asInt IntKind.i64 (mlook (PV.str s11) (PV.int IntKind.i64 0) s8.snd.snd.snd.snd.snd.snd.fst)).bind
 fun n14 =>
 if mhas (PV.str s11) s8.snd.snd.snd.snd.snd.snd.fst = true then some (PV.bool false)
 else
 rec9
 (s8.fst, IntKind.i64.wrap (s8.snd.fst + 1), s8.snd.snd.fst, s8.snd.snd.snd.fst,
 s8.snd.snd.snd.snd.fst, s8.snd.snd.snd.snd.snd.fst,
 mput (PV.str s11) (PV.int IntKind.i64 s8.snd.fst) s8.snd.snd.snd.snd.snd.snd.fst,
 s8.snd.snd.snd.snd.snd.snd.snd.fst, ())
 else none
else
 (m9 [PV.rs 1 s8.snd.snd.snd.snd.snd.snd.snd.fst]).bind fun r15 =>
 (asSl 1 r15).bind fun es16 =>
 L.run ((law05_exampleHolds_L1_G m0 m1 m2 m3 m4 m5 m6 m7 m8 m9 m10 m11 m12) L)
 ((↑(List.map scalP es16).length : Int), 0, s8.snd.snd.fst, s8.snd.snd.snd.fst, s8.snd.snd.snd.snd.fst,
 s8.snd.snd.snd.snd.snd.fst, List.map scalP es16, s8.snd.snd.snd.snd.snd.snd.fst, [], ())
noncomputable def law05_exampleHolds_G (m0 m1 m2 m3 m4 m5 m6 m7 m8 m9 m10 m11 m12 : List PV → Option PV) (L : Lps) : Option PV :=
 (m1 [PV.rs 1 [PV.str [97], PV.str [98], PV.str [97]]]).bind fun r0 =>
 (asTup 2 r0).bind fun vs1 =>
 (Ab.asInt IntKind.i64 (vs1.getD 0 PV.bad)).bind fun n2 =>
 (Ab.asInt IntKind.i64 (vs1.getD 1 PV.bad)).bind fun n3 =>
 (m1 [PV.rs 1 [PV.str [97], PV.str [63], PV.str [97]]]).bind fun r4 =>
 (asTup 2 r4).bind fun vs5 =>
 (Ab.asInt IntKind.i64 (vs5.getD 0 PV.bad)).bind fun n6 =>
 (Ab.asInt IntKind.i64 (vs5.getD 1 PV.bad)).bind fun n7 =>
 L.run ((law05_exampleHolds_L2_G m0 m1 m2 m3 m4 m5 m6 m7 m8 m9 m10 m11 m12) L)
 ((↑3 : Int), 0, n2, n3, n6, n7, [], [PV.str [98], PV.str [97, 46, 50], PV.str [97]], ())
end Go.Ab
namespace Go.Proofs.Ytklnckbjikhkgaa
open Go.Ab
set_option maxRecDepth 1000000
set_option linter.unusedVariables false
theorem eqg_14 (L : Lps) (m0 m1 m2 m3 m4 m5 m6 m7 m8 m9 m10 m11 m12 : List PV → Option PV) : evalFn (Seat.env ({ P := Try.prog, glob := fun _ => none, hint := hints, hook := fun g => bif Nat.beq g 37 then some (sortHook fun g => bif Nat.beq g 38 then some m7 else none) else none }) L [(25, m0), (18, m1), (35, m2), (23, m3), (24, m4), (21, m5), (12, m6), (38, m7), (15, m8)] [(36, m9), (26, m10), (33, m11), (28, m12)] 14 Try.f14) [] = law05_exampleHolds_G m0 m1 m2 m3 m4 m5 m6 m7 m8 m9 m10 m11 m12 L := by kernel_rfl
theorem eqd_14 (L : Lps) : law05_exampleHolds L = law05_exampleHolds_G law05_same_M ident_Unique_M strings_HasPrefix_M ident_Table_Name_M ident_Table_Len_M ident_Table_Find_M ident_Valid_M ident_New_1_M ident_Compare_M slices_Clone_string_string_M ident_Table_Sorted_M slices_Clone_int_int_M ident_Table_Prefix_M L := by kernel_rfl
theorem eqe_14 (L : Lps) : S.env L tab_9 otab_4 14 Try.f14 = (Seat.env ({ P := Try.prog, glob := fun _ => none, hint := hints, hook := fun g => bif Nat.beq g 37 then some (sortHook fun g => bif Nat.beq g 38 then some ident_New_1_M else none) else none }) L [(25, law05_same_M), (18, ident_Unique_M), (35, strings_HasPrefix_M), (23, ident_Table_Name_M), (24, ident_Table_Len_M), (21, ident_Table_Find_M), (12, ident_Valid_M), (38, ident_New_1_M), (15, ident_Compare_M)] [(36, slices_Clone_string_string_M), (26, ident_Table_Sorted_M), (33, slices_Clone_int_int_M), (28, ident_Table_Prefix_M)] 14 Try.f14) := by kernel_rfl
theorem eq_14 (L : Lps) : evalFn (S.env L tab_9 otab_4 14 Try.f14) [] = law05_exampleHolds L := (congrArg (fun E => evalFn E []) (eqe_14 L)).trans ((eqg_14 L law05_same_M ident_Unique_M strings_HasPrefix_M ident_Table_Name_M ident_Table_Len_M ident_Table_Find_M ident_Valid_M ident_New_1_M ident_Compare_M slices_Clone_string_string_M ident_Table_Sorted_M slices_Clone_int_int_M ident_Table_Prefix_M).trans (eqd_14 L).symm)
theorem eq_38 (L : Lps) (p0 p1 c2 c3 c4 : PV) : evalFn (S0.env L tab_1 otab_0 38 Try.f38) [p0, p1, PV.rp [PV.rp [c2, c3, c4]]] = ident_New_1 L p0 p1 c2 c3 c4 := by kernel_rfl
theorem eq_23 (L : Lps) (p0 p1 : PV) : evalFn (S.env L tab_5 otab_0 23 Try.f23) [p0, p1] = ident_Table_Name L p0 p1 := by kernel_rfl
theorem eq_26 (L : Lps) (p0 : PV) : evalFnO (S.env L tab_7 otab_2 26 Try.f26) [p0] = ident_Table_Sorted L p0 := by kernel_rfl
theorem eq_4 (L : Lps) (p0 p1 : PV) : evalFn (S.env L tab_13 otab_4 4 Try.f4) [p0, p1] = law05_IdentCompares L p0 p1 := by kernel_rfl
theorem eq_5 (L : Lps) (p0 : PV) : evalFn (S.env L tab_17 otab_4 5 Try.f5) [p0] = law05_IdentUniques L p0 := by kernel_rfl
theorem eq_7 (L : Lps) (p0 p1 : PV) : evalFn (S.env L tab_21 otab_4 7 Try.f7) [p0, p1] = law05_IdentSections L p0 p1 := by kernel_rfl
theorem eq_10 (L : Lps) (p0 p1 : PV) : evalFn (S.env L tab_25 otab_4 10 Try.f10) [p0, p1] = law05_IdentNils L p0 p1 := by kernel_rfl
end Go.Proofs.Ytklnckbjikhkgaa
