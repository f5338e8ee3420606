/- The plain Lean functions are what the evaluator makes of the program. Printed by a program of the author. -/
import Derived.Test.YtlgcompmkliiaaaTab
namespace Go.Proofs.Ytlgcompmkliiaaa
open Go.Ab
set_option maxRecDepth 1000000
theorem eq_20 (L : Lps) (c0 c1 c2 c3 c4 c5 c6 c7 c8 c9 c10 c11 c12 : PV) : evalFn (S.env L tab_2 20 Try.f20) [PV.rp [c0, c1, c2, c3, c4, c5, c6, c7, c8, c9, c10, c11, c12]] = timetable_Check_1 L c0 c1 c2 c3 c4 c5 c6 c7 c8 c9 c10 c11 c12 := by kernel_rfl
theorem eq_66 (L : Lps) (p0 : PV) : evalFn (S.env L tab_6 66 Try.f66) [p0] = route_known L p0 := by kernel_rfl
theorem eq_25 (L : Lps) (p0 : PV) : evalFn (S.env L tab_10 25 Try.f25) [p0] = calendar_Check L p0 := by kernel_rfl
theorem eq_90 (L : Lps) (p0 p1 p2 p3 p4 : PV) : evalFn (S.env L tab_14 90 Try.f90) [p0, p1, p2, p3, p4] = call_one L p0 p1 p2 p3 p4 := by kernel_rfl
theorem eq_71 (L : Lps) (p0 : PV) : evalFn (S.env L tab_18 71 Try.f71) [p0] = frequency_count L p0 := by kernel_rfl
theorem eq_92 (L : Lps) (p0 : PV) : evalFn (S.env L tab_22 92 Try.f92) [p0] = frequency_last L p0 := by kernel_rfl
theorem eq_30 (L : Lps) (c0 c1 c2 c3 c4 c5 c6 c7 c8 c9 c10 c11 c12 : PV) : evalFn (S.env L tab_26 30 Try.f30) [PV.rp [c0, c1, c2, c3, c4, c5, c6, c7, c8, c9, c10, c11, c12]] = timetable_Check_6 L c0 c1 c2 c3 c4 c5 c6 c7 c8 c9 c10 c11 c12 := by kernel_rfl
theorem eq_74 (L : Lps) (p0 p1 p2 : PV) : evalFn (S.env L tab_30 74 Try.f74) [p0, p1, p2] = through_leads L p0 p1 p2 := by kernel_rfl
theorem eq_32 (L : Lps) (c0 c1 c2 c3 c4 c5 c6 c7 c8 c9 c10 c11 c12 : PV) : evalFn (S.env L tab_34 32 Try.f32) [PV.rp [c0, c1, c2, c3, c4, c5, c6, c7, c8, c9, c10, c11, c12]] = timetable_Check_7 L c0 c1 c2 c3 c4 c5 c6 c7 c8 c9 c10 c11 c12 := by kernel_rfl
theorem eq_35 (L : Lps) (p0 p1 p2 p3 : PV) : evalFn (S.env L tab_38 35 Try.f35) [p0, p1, p2, p3] = through_CheckGuarantees L p0 p1 p2 p3 := by kernel_rfl
theorem eq_36 (L : Lps) (c0 c1 c2 c3 c4 c5 c6 c7 c8 c9 c10 c11 c12 c13 : PV) : evalFn (S.env L tab_42 36 Try.f36) [PV.rp [c0, c1, c2, c3, c4, c5, c6, c7, c8, c9, c10, c11, c12], PV.rp [c13]] = timetable_Check_9 L c0 c1 c2 c3 c4 c5 c6 c7 c8 c9 c10 c11 c12 c13 := by kernel_rfl
theorem eq_99 (L : Lps) (p0 p1 : PV) : evalFn (S.env L tab_46 99 Try.f99) [p0, p1] = ref13_Find L p0 p1 := by kernel_rfl
theorem eq_102 (L : Lps) (p0 : PV) : evalFn (S.env L tab_50 102 Try.f102) [p0] = ref05_Valid L p0 := by kernel_rfl
theorem eq_101 (L : Lps) (p0 : PV) : evalFn (S.env L tab_54 101 Try.f101) [p0] = ref15_mode L p0 := by kernel_rfl
theorem eq_104 (L : Lps) (p0 p1 p2 p3 p4 : PV) : evalFn (S.env L tab_58 104 Try.f104) [p0, p1, p2, p3, p4] = ref17_one L p0 p1 p2 p3 p4 := by kernel_rfl
theorem eq_126 (L : Lps) (p0 p1 p2 : PV) : evalFn (S.env L tab_62 126 Try.f126) [p0, p1, p2] = ref18_Shift L p0 p1 p2 := by kernel_rfl
theorem eq_83 (L : Lps) (p0 p1 : PV) : evalFn (S.env L tab_66 83 Try.f83) [p0, p1] = ref18_Check L p0 p1 := by kernel_rfl
theorem eq_119 (L : Lps) (p0 p1 : PV) : evalFn (S.env L tab_70 119 Try.f119) [p0, p1] = ref19_in L p0 p1 := by kernel_rfl
theorem eq_123 (L : Lps) (p0 p1 p2 : PV) : evalFn (S.env L tab_74 123 Try.f123) [p0, p1, p2] = ref19_Meets L p0 p1 p2 := by kernel_rfl
theorem eq_86 (L : Lps) (p0 p1 : PV) : evalFn (S.env L tab_78 86 Try.f86) [p0, p1] = ref20_Check L p0 p1 := by kernel_rfl
theorem eq_40 (L : Lps) (p0 p1 : PV) : evalFn (S.env L tab_82 40 Try.f40) [p0, p1] = ref22_part L p0 p1 := by kernel_rfl
theorem eq_14 (L : Lps) (p0 : PV) : evalFn (S.env L tab_86 14 Try.f14) [p0] = ref22_Sizes L p0 := by kernel_rfl
theorem eq_5 (L : Lps) (p0 : PV) : evalFn (S.env L tab_90 5 Try.f5) [p0] = law22_TimetableParts L p0 := by kernel_rfl
theorem eq_52 (L : Lps) (p0 p1 : PV) : evalFn (S.env L tab_94 52 Try.f52) [p0, p1] = ref22_trips L p0 p1 := by kernel_rfl
theorem eq_88 (L : Lps) (p0 p1 : PV) : evalFn (S.env L tab_98 88 Try.f88) [p0, p1] = call_Equal L p0 p1 := by kernel_rfl
theorem eq_49 (L : Lps) (p0 p1 : PV) : evalFn (S.env L tab_102 49 Try.f49) [p0, p1] = timetable_same_Footpath L p0 p1 := by kernel_rfl
theorem eq_41 (L : Lps) (p0 p1 : PV) : evalFn (S.env L tab_106 41 Try.f41) [p0, p1] = timetable_same_Stop L p0 p1 := by kernel_rfl
theorem eq_56 (L : Lps) (p0 : PV) : evalFn (S.env L tab_110 56 Try.f56) [p0] = timetable_copied_Calendar L p0 := by kernel_rfl
theorem eq_59 (L : Lps) (p0 : PV) : evalFn (S.env L tab_114 59 Try.f59) [p0] = timetable_copied_Frequency L p0 := by kernel_rfl
theorem eq_54 (L : Lps) (p0 : PV) : evalFn (S.env L tab_118 54 Try.f54) [p0] = timetable_copied_Stop L p0 := by kernel_rfl
theorem eq_94 (L : Lps) (p0 p1 : PV) : evalFn (S.env L tab_122 94 Try.f94) [p0, p1] = frequency_Repeated L p0 p1 := by kernel_rfl
end Go.Proofs.Ytlgcompmkliiaaa
