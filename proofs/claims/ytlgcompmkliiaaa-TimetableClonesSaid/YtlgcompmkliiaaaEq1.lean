/- The plain Lean functions are what the evaluator makes of the program. Printed by a program of the author. -/
import Derived.Test.YtlgcompmkliiaaaTab
namespace Go.Proofs.Ytlgcompmkliiaaa
open Go.Ab
set_option maxRecDepth 1000000
theorem eq_65 (L : Lps) (p0 : PV) : evalFn (S.env L tab_0 otab_0 65 Try.f65) [p0] = ident_Valid L p0 := by kernel_rfl
theorem eq_39 (L : Lps) (p0 : PV) : evalFn (S.env L tab_4 otab_0 39 Try.f39) [p0] = product_Check L p0 := by kernel_rfl
theorem eq_22 (L : Lps) (c0 c1 c2 c3 c4 c5 c6 c7 c8 c9 c10 c11 c12 : PV) : evalFn (S.env L tab_8 otab_0 22 Try.f22) [PV.rp [c0, c1, c2, c3, c4, c5, c6, c7, c8, c9, c10, c11, c12]] = timetable_Check_2 L c0 c1 c2 c3 c4 c5 c6 c7 c8 c9 c10 c11 c12 := by kernel_rfl
theorem eq_27 (L : Lps) (p0 p1 : PV) : evalFn (S.env L tab_12 otab_0 27 Try.f27) [p0, p1] = calendar_CheckExceptions L p0 p1 := by kernel_rfl
theorem eq_29 (L : Lps) (p0 p1 p2 p3 : PV) : evalFn (S.env L tab_16 otab_0 29 Try.f29) [p0, p1, p2, p3] = trip_Check L p0 p1 p2 p3 := by kernel_rfl
theorem eq_125 (L : Lps) (p0 p1 p2 : PV) : evalFn (S.env L tab_20 otab_0 125 Try.f125) [p0, p1, p2] = frequency_wide L p0 p1 p2 := by kernel_rfl
theorem eq_70 (L : Lps) (p0 p1 : PV) : evalFn (S.env L tab_24 otab_0 70 Try.f70) [p0, p1] = frequency_fits L p0 p1 := by kernel_rfl
theorem eq_73 (L : Lps) (p0 p1 : PV) : evalFn (S.env L tab_28 otab_0 73 Try.f73) [p0, p1] = through_follows L p0 p1 := by kernel_rfl
theorem eq_94 (L : Lps) (p0 p1 : PV) : evalFn (S.env L tab_32 otab_0 94 Try.f94) [p0, p1] = frequency_Repeated L p0 p1 := by kernel_rfl
theorem eq_32 (L : Lps) (c0 c1 c2 c3 c4 c5 c6 c7 c8 c9 c10 c11 c12 : PV) : evalFn (S.env L tab_36 otab_0 32 Try.f32) [PV.rp [c0, c1, c2, c3, c4, c5, c6, c7, c8, c9, c10, c11, c12]] = timetable_Check_7 L c0 c1 c2 c3 c4 c5 c6 c7 c8 c9 c10 c11 c12 := by kernel_rfl
theorem eq_35 (L : Lps) (p0 p1 p2 p3 : PV) : evalFn (S.env L tab_40 otab_0 35 Try.f35) [p0, p1, p2, p3] = through_CheckGuarantees L p0 p1 p2 p3 := by kernel_rfl
theorem eq_36 (L : Lps) (c0 c1 c2 c3 c4 c5 c6 c7 c8 c9 c10 c11 c12 c13 : PV) : evalFn (S.env L tab_44 otab_0 36 Try.f36) [PV.rp [c0, c1, c2, c3, c4, c5, c6, c7, c8, c9, c10, c11, c12], PV.rp [c13]] = timetable_Check_9 L c0 c1 c2 c3 c4 c5 c6 c7 c8 c9 c10 c11 c12 c13 := by kernel_rfl
theorem eq_99 (L : Lps) (p0 p1 : PV) : evalFn (S.env L tab_48 otab_0 99 Try.f99) [p0, p1] = ref13_Find L p0 p1 := by kernel_rfl
theorem eq_102 (L : Lps) (p0 : PV) : evalFn (S.env L tab_52 otab_0 102 Try.f102) [p0] = ref05_Valid L p0 := by kernel_rfl
theorem eq_101 (L : Lps) (p0 : PV) : evalFn (S.env L tab_56 otab_0 101 Try.f101) [p0] = ref15_mode L p0 := by kernel_rfl
theorem eq_104 (L : Lps) (p0 p1 p2 p3 p4 : PV) : evalFn (S.env L tab_60 otab_0 104 Try.f104) [p0, p1, p2, p3, p4] = ref17_one L p0 p1 p2 p3 p4 := by kernel_rfl
theorem eq_126 (L : Lps) (p0 p1 p2 : PV) : evalFn (S.env L tab_64 otab_0 126 Try.f126) [p0, p1, p2] = ref18_Shift L p0 p1 p2 := by kernel_rfl
theorem eq_83 (L : Lps) (p0 p1 : PV) : evalFn (S.env L tab_68 otab_0 83 Try.f83) [p0, p1] = ref18_Check L p0 p1 := by kernel_rfl
theorem eq_119 (L : Lps) (p0 p1 : PV) : evalFn (S.env L tab_72 otab_0 119 Try.f119) [p0, p1] = ref19_in L p0 p1 := by kernel_rfl
theorem eq_123 (L : Lps) (p0 p1 p2 : PV) : evalFn (S.env L tab_76 otab_0 123 Try.f123) [p0, p1, p2] = ref19_Meets L p0 p1 p2 := by kernel_rfl
theorem eq_86 (L : Lps) (p0 p1 : PV) : evalFn (S.env L tab_80 otab_0 86 Try.f86) [p0, p1] = ref20_Check L p0 p1 := by kernel_rfl
theorem eq_40 (L : Lps) (p0 p1 : PV) : evalFn (S.env L tab_84 otab_0 40 Try.f40) [p0, p1] = ref22_part L p0 p1 := by kernel_rfl
theorem eq_14 (L : Lps) (p0 : PV) : evalFn (S.env L tab_88 otab_0 14 Try.f14) [p0] = ref22_Sizes L p0 := by kernel_rfl
theorem eq_5 (L : Lps) (p0 : PV) : evalFn (S.env L tab_92 otab_0 5 Try.f5) [p0] = law22_TimetableParts L p0 := by kernel_rfl
theorem eq_52 (L : Lps) (p0 p1 : PV) : evalFn (S.env L tab_96 otab_0 52 Try.f52) [p0, p1] = ref22_trips L p0 p1 := by kernel_rfl
theorem eq_88 (L : Lps) (p0 p1 : PV) : evalFn (S.env L tab_100 otab_0 88 Try.f88) [p0, p1] = call_Equal L p0 p1 := by kernel_rfl
theorem eq_49 (L : Lps) (p0 p1 : PV) : evalFn (S.env L tab_104 otab_0 49 Try.f49) [p0, p1] = timetable_same_Footpath L p0 p1 := by kernel_rfl
theorem eq_41 (L : Lps) (p0 p1 : PV) : evalFn (S.env L tab_108 otab_0 41 Try.f41) [p0, p1] = timetable_same_Stop L p0 p1 := by kernel_rfl
theorem eq_56 (L : Lps) (p0 : PV) : evalFn (S.env L tab_112 otab_0 56 Try.f56) [p0] = timetable_copied_Calendar L p0 := by kernel_rfl
theorem eq_59 (L : Lps) (p0 : PV) : evalFn (S.env L tab_116 otab_0 59 Try.f59) [p0] = timetable_copied_Frequency L p0 := by kernel_rfl
theorem eq_54 (L : Lps) (p0 : PV) : evalFn (S.env L tab_120 otab_0 54 Try.f54) [p0] = timetable_copied_Stop L p0 := by kernel_rfl
theorem eq_8 (L : Lps) (p0 : PV) : evalFn (S.env L tab_123 otab_1 8 Try.f8) [p0] = law22_TimetableClones L p0 := by kernel_rfl
end Go.Proofs.Ytlgcompmkliiaaa
