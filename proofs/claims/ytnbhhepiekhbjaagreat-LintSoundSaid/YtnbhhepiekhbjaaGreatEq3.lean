/- The plain Lean functions are what the evaluator makes of the program. Printed by a program of the author. -/
import Derived.Test.YtnbhhepiekhbjaaGreatTab
namespace Go.Proofs.YtnbhhepiekhbjaaGreat
open Go.Ab
set_option maxRecDepth 1000000
theorem eq_46 (L : Lps) (p0 p1 : PV) : evalFn (S.env L tab_2 otab_0 46 Tryz.f46) [p0, p1] = lint_Text_1 L p0 p1 := by kernel_rfl
theorem eq_133 (L : Lps) (p0 : PV) : evalFn (S.env L tab_6 otab_0 133 Tryz.f133) [p0] = date_Weekday L p0 := by kernel_rfl
theorem eq_24 (L : Lps) (p0 : PV) : evalFn (S.env L tab_10 otab_0 24 Tryz.f24) [p0] = lint_idle L p0 := by kernel_rfl
theorem eq_21 (L : Lps) (p0 : PV) : evalFn (S.env L tab_14 otab_0 21 Tryz.f21) [p0] = lint_stops L p0 := by kernel_rfl
theorem eq_51 (L : Lps) (p0 : PV) : evalFn (S.env L tab_18 otab_0 51 Tryz.f51) [p0] = stop_Check L p0 := by kernel_rfl
theorem eq_68 (L : Lps) (c0 c1 c2 c3 c4 c5 c6 c7 c8 c9 c10 c11 c12 : PV) : evalFn (S.env L tab_22 otab_0 68 Tryz.f68) [PV.rp [c0, c1, c2, c3, c4, c5, c6, c7, c8, c9, c10, c11, c12]] = timetable_Check_10 L c0 c1 c2 c3 c4 c5 c6 c7 c8 c9 c10 c11 c12 := by kernel_rfl
theorem eq_55 (L : Lps) (p0 : PV) : evalFn (S.env L tab_26 otab_0 55 Tryz.f55) [p0] = calendar_Check L p0 := by kernel_rfl
theorem eq_119 (L : Lps) (p0 p1 p2 p3 p4 : PV) : evalFn (S.env L tab_30 otab_0 119 Tryz.f119) [p0, p1, p2, p3, p4] = call_one L p0 p1 p2 p3 p4 := by kernel_rfl
theorem eq_97 (L : Lps) (p0 : PV) : evalFn (S.env L tab_34 otab_0 97 Tryz.f97) [p0] = frequency_count L p0 := by kernel_rfl
theorem eq_120 (L : Lps) (p0 p1 : PV) : evalFn (S.env L tab_38 otab_0 120 Tryz.f120) [p0, p1] = frequency_Calls L p0 p1 := by kernel_rfl
theorem eq_61 (L : Lps) (p0 p1 : PV) : evalFn (S.env L tab_42 otab_0 61 Tryz.f61) [p0, p1] = frequency_Check L p0 p1 := by kernel_rfl
theorem eq_124 (L : Lps) (p0 p1 : PV) : evalFn (S.env L tab_46 otab_0 124 Tryz.f124) [p0, p1] = through_Chain L p0 p1 := by kernel_rfl
theorem eq_98 (L : Lps) (p0 p1 p2 p3 : PV) : evalFn (S.env L tab_50 otab_0 98 Tryz.f98) [p0, p1, p2, p3] = through_pair L p0 p1 p2 p3 := by kernel_rfl
theorem eq_126 (L : Lps) (p0 p1 : PV) : evalFn (S.env L tab_54 otab_0 126 Tryz.f126) [p0, p1] = through_boarding L p0 p1 := by kernel_rfl
theorem eq_102 (L : Lps) (p0 p1 : PV) : evalFn (S.env L tab_58 otab_0 102 Tryz.f102) [p0, p1] = footpath_sound L p0 p1 := by kernel_rfl
theorem eq_106 (L : Lps) (p0 p1 : PV) : evalFn (S.env L tab_62 otab_0 106 Tryz.f106) [p0, p1] = trip_SamePattern L p0 p1 := by kernel_rfl
theorem eq_12 (L : Lps) : evalFn (S.env L tab_66 otab_0 12 Tryz.f12) [] = law24_exampleHolds L  := by kernel_rfl
theorem eq_7 (L : Lps) (p0 : PV) : evalFn (S.env L tab_70 otab_0 7 Tryz.f7) [p0] = ref24_Large L p0 := by kernel_rfl
theorem eq_88 (L : Lps) (p0 p1 p2 p3 : PV) : evalFn (S.env L tab_74 otab_0 88 Tryz.f88) [p0, p1, p2, p3] = ref14_Active L p0 p1 p2 p3 := by kernel_rfl
theorem eq_118 (L : Lps) (p0 p1 : PV) : evalFn (S.env L tab_78 otab_0 118 Tryz.f118) [p0, p1] = ref17_event L p0 p1 := by kernel_rfl
theorem eq_90 (L : Lps) (p0 p1 : PV) : evalFn (S.env L tab_82 otab_0 90 Tryz.f90) [p0, p1] = ref15_Bit L p0 p1 := by kernel_rfl
theorem eq_39 (L : Lps) (p0 p1 : PV) : evalFn (S.env L tab_86 otab_0 39 Tryz.f39) [p0, p1] = ref24_stopUsed L p0 p1 := by kernel_rfl
theorem eq_29 (L : Lps) (p0 : PV) : evalFn (S.env L tab_90 otab_0 29 Tryz.f29) [p0] = ref13_Check L p0 := by kernel_rfl
theorem eq_77 (L : Lps) (p0 : PV) : evalFn (S.env L tab_94 otab_0 77 Tryz.f77) [p0] = ref15_Name L p0 := by kernel_rfl
theorem eq_108 (L : Lps) (p0 p1 : PV) : evalFn (S.env L tab_98 otab_0 108 Tryz.f108) [p0, p1] = ref17_calls L p0 p1 := by kernel_rfl
theorem eq_110 (L : Lps) (p0 p1 : PV) : evalFn (S.env L tab_102 otab_0 110 Tryz.f110) [p0, p1] = ref18_Calls L p0 p1 := by kernel_rfl
theorem eq_113 (L : Lps) (p0 p1 : PV) : evalFn (S.env L tab_106 otab_0 113 Tryz.f113) [p0, p1] = ref19_Has L p0 p1 := by kernel_rfl
theorem eq_112 (L : Lps) (p0 p1 : PV) : evalFn (S.env L tab_110 otab_0 112 Tryz.f112) [p0, p1] = ref19_repeated L p0 p1 := by kernel_rfl
theorem eq_84 (L : Lps) (p0 p1 p2 p3 p4 : PV) : evalFn (S.env L tab_114 otab_0 84 Tryz.f84) [p0, p1, p2, p3, p4] = ref19_guarantee L p0 p1 p2 p3 p4 := by kernel_rfl
theorem eq_86 (L : Lps) (p0 p1 p2 : PV) : evalFn (S.env L tab_118 otab_0 86 Tryz.f86) [p0, p1, p2] = ref21_within L p0 p1 p2 := by kernel_rfl
theorem eq_4 (L : Lps) (p0 : PV) : evalFn (S.env L tab_122 otab_0 4 Tryz.f4) [p0] = law24_LintSound L p0 := by kernel_rfl
end Go.Proofs.YtnbhhepiekhbjaaGreat
