/- The plain Lean functions are what the evaluator makes of the program. Printed by a program of the author. -/
import Derived.Test.YtlgcompmkliiaaaTab
namespace Go.Proofs.Ytlgcompmkliiaaa
open Go.Ab
set_option maxRecDepth 1000000
theorem eq_20 (L : Lps) (c0 c1 c2 c3 c4 c5 c6 c7 c8 c9 c10 c11 c12 : PV) : evalFn (S.env L tab_2 otab_0 20 Try.f20) [PV.rp [c0, c1, c2, c3, c4, c5, c6, c7, c8, c9, c10, c11, c12]] = timetable_Check_1 L c0 c1 c2 c3 c4 c5 c6 c7 c8 c9 c10 c11 c12 := by kernel_rfl
theorem eq_66 (L : Lps) (p0 : PV) : evalFn (S.env L tab_6 otab_0 66 Try.f66) [p0] = route_known L p0 := by kernel_rfl
theorem eq_25 (L : Lps) (p0 : PV) : evalFn (S.env L tab_10 otab_0 25 Try.f25) [p0] = calendar_Check L p0 := by kernel_rfl
theorem eq_90 (L : Lps) (p0 p1 p2 p3 p4 : PV) : evalFn (S.env L tab_14 otab_0 90 Try.f90) [p0, p1, p2, p3, p4] = call_one L p0 p1 p2 p3 p4 := by kernel_rfl
theorem eq_71 (L : Lps) (p0 : PV) : evalFn (S.env L tab_18 otab_0 71 Try.f71) [p0] = frequency_count L p0 := by kernel_rfl
theorem eq_91 (L : Lps) (p0 p1 : PV) : evalFn (S.env L tab_22 otab_0 91 Try.f91) [p0, p1] = frequency_Calls L p0 p1 := by kernel_rfl
theorem eq_31 (L : Lps) (p0 p1 : PV) : evalFn (S.env L tab_26 otab_0 31 Try.f31) [p0, p1] = frequency_Check L p0 p1 := by kernel_rfl
theorem eq_95 (L : Lps) (p0 p1 : PV) : evalFn (S.env L tab_30 otab_0 95 Try.f95) [p0, p1] = through_Chain L p0 p1 := by kernel_rfl
theorem eq_72 (L : Lps) (p0 p1 p2 p3 : PV) : evalFn (S.env L tab_34 otab_0 72 Try.f72) [p0, p1, p2, p3] = through_pair L p0 p1 p2 p3 := by kernel_rfl
theorem eq_97 (L : Lps) (p0 p1 : PV) : evalFn (S.env L tab_38 otab_0 97 Try.f97) [p0, p1] = through_boarding L p0 p1 := by kernel_rfl
theorem eq_76 (L : Lps) (p0 p1 : PV) : evalFn (S.env L tab_42 otab_0 76 Try.f76) [p0, p1] = footpath_sound L p0 p1 := by kernel_rfl
theorem eq_13 (L : Lps) (p0 : PV) : evalFn (S.env L tab_46 otab_0 13 Try.f13) [p0] = timetable_Sizes L p0 := by kernel_rfl
theorem eq_78 (L : Lps) (p0 : PV) : evalFn (S.env L tab_50 otab_0 78 Try.f78) [p0] = ref13_Check L p0 := by kernel_rfl
theorem eq_81 (L : Lps) (p0 p1 : PV) : evalFn (S.env L tab_54 otab_0 81 Try.f81) [p0, p1] = ref14_CheckExceptions L p0 p1 := by kernel_rfl
theorem eq_115 (L : Lps) (p0 p1 : PV) : evalFn (S.env L tab_58 otab_0 115 Try.f115) [p0, p1] = ref17_Find L p0 p1 := by kernel_rfl
theorem eq_105 (L : Lps) (p0 : PV) : evalFn (S.env L tab_62 otab_0 105 Try.f105) [p0] = ref18_Sound L p0 := by kernel_rfl
theorem eq_117 (L : Lps) (p0 : PV) : evalFn (S.env L tab_66 otab_0 117 Try.f117) [p0] = ref18_Starts L p0 := by kernel_rfl
theorem eq_127 (L : Lps) (p0 p1 : PV) : evalFn (S.env L tab_70 otab_0 127 Try.f127) [p0, p1] = ref19_Next L p0 p1 := by kernel_rfl
theorem eq_108 (L : Lps) (p0 p1 p2 p3 : PV) : evalFn (S.env L tab_74 otab_0 108 Try.f108) [p0, p1, p2, p3] = ref19_one L p0 p1 p2 p3 := by kernel_rfl
theorem eq_85 (L : Lps) (p0 p1 p2 p3 : PV) : evalFn (S.env L tab_78 otab_0 85 Try.f85) [p0, p1, p2, p3] = ref19_CheckGuarantees L p0 p1 p2 p3 := by kernel_rfl
theorem eq_112 (L : Lps) (p0 : PV) : evalFn (S.env L tab_82 otab_0 112 Try.f112) [p0] = ref21_Right L p0 := by kernel_rfl
theorem eq_9 (L : Lps) (p0 : PV) : evalFn (S.env L tab_86 otab_0 9 Try.f9) [p0] = ref22_Few L p0 := by kernel_rfl
theorem eq_16 (L : Lps) (p0 : PV) : evalFn (S.env L tab_90 otab_0 16 Try.f16) [p0] = law22_lower L p0 := by kernel_rfl
theorem eq_51 (L : Lps) (p0 p1 : PV) : evalFn (S.env L tab_94 otab_0 51 Try.f51) [p0, p1] = ref22_heads L p0 p1 := by kernel_rfl
theorem eq_89 (L : Lps) (p0 p1 : PV) : evalFn (S.env L tab_98 otab_0 89 Try.f89) [p0, p1] = timetable_same_Product L p0 p1 := by kernel_rfl
theorem eq_43 (L : Lps) (p0 p1 : PV) : evalFn (S.env L tab_102 otab_0 43 Try.f43) [p0, p1] = timetable_same_Calendar L p0 p1 := by kernel_rfl
theorem eq_48 (L : Lps) (p0 p1 : PV) : evalFn (S.env L tab_106 otab_0 48 Try.f48) [p0, p1] = timetable_same_Guarantee L p0 p1 := by kernel_rfl
theorem eq_17 (L : Lps) (p0 p1 : PV) : evalFn (S.env L tab_110 otab_0 17 Try.f17) [p0, p1] = timetable_Equal L p0 p1 := by kernel_rfl
theorem eq_57 (L : Lps) (p0 : PV) : evalFn (S.env L tab_114 otab_0 57 Try.f57) [p0] = timetable_copied_Exception L p0 := by kernel_rfl
theorem eq_64 (L : Lps) (p0 : PV) : evalFn (S.env L tab_118 otab_0 64 Try.f64) [p0] = timetable_copied_Product L p0 := by kernel_rfl
theorem eq_58 (L : Lps) (p0 : PV) : evalFnO (S.env L tab_122 otab_0 58 Try.f58) [p0] = timetable_copied_Trip L p0 := by kernel_rfl
end Go.Proofs.Ytlgcompmkliiaaa
