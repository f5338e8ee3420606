/- The plain Lean functions are what the evaluator makes of the program. Printed by a program of the author. -/
import Derived.Test.YtlgcompmkliiaaaTab
namespace Go.Proofs.Ytlgcompmkliiaaa
open Go.Ab
set_option maxRecDepth 1000000
theorem eq_65 (L : Lps) (p0 : PV) : evalFn (S.env L tab_0 65 Try.f65) [p0] = ident_Valid L p0 := by kernel_rfl
theorem eq_39 (L : Lps) (p0 : PV) : evalFn (S.env L tab_4 39 Try.f39) [p0] = product_Check L p0 := by kernel_rfl
theorem eq_22 (L : Lps) (c0 c1 c2 c3 c4 c5 c6 c7 c8 c9 c10 c11 c12 : PV) : evalFn (S.env L tab_8 22 Try.f22) [PV.rp [c0, c1, c2, c3, c4, c5, c6, c7, c8, c9, c10, c11, c12]] = timetable_Check_2 L c0 c1 c2 c3 c4 c5 c6 c7 c8 c9 c10 c11 c12 := by kernel_rfl
theorem eq_27 (L : Lps) (p0 p1 : PV) : evalFn (S.env L tab_12 27 Try.f27) [p0, p1] = calendar_CheckExceptions L p0 p1 := by kernel_rfl
theorem eq_29 (L : Lps) (p0 p1 p2 p3 : PV) : evalFn (S.env L tab_16 29 Try.f29) [p0, p1, p2, p3] = trip_Check L p0 p1 p2 p3 := by kernel_rfl
theorem eq_113 (L : Lps) (p0 p1 p2 : PV) : evalFn (S.env L tab_20 113 Try.f113) [p0, p1, p2] = frequency_moved L p0 p1 p2 := by kernel_rfl
theorem eq_69 (L : Lps) (p0 : PV) : evalFn (S.env L tab_24 69 Try.f69) [p0] = frequency_sound L p0 := by kernel_rfl
theorem eq_114 (L : Lps) (p0 p1 : PV) : evalFn (S.env L tab_28 114 Try.f114) [p0, p1] = through_Next L p0 p1 := by kernel_rfl
theorem eq_72 (L : Lps) (p0 p1 p2 p3 : PV) : evalFn (S.env L tab_32 72 Try.f72) [p0, p1, p2, p3] = through_pair L p0 p1 p2 p3 := by kernel_rfl
theorem eq_97 (L : Lps) (p0 p1 : PV) : evalFn (S.env L tab_36 97 Try.f97) [p0, p1] = through_boarding L p0 p1 := by kernel_rfl
theorem eq_76 (L : Lps) (p0 p1 : PV) : evalFn (S.env L tab_40 76 Try.f76) [p0, p1] = footpath_sound L p0 p1 := by kernel_rfl
theorem eq_13 (L : Lps) (p0 : PV) : evalFn (S.env L tab_44 13 Try.f13) [p0] = timetable_Sizes L p0 := by kernel_rfl
theorem eq_78 (L : Lps) (p0 : PV) : evalFn (S.env L tab_48 78 Try.f78) [p0] = ref13_Check L p0 := by kernel_rfl
theorem eq_81 (L : Lps) (p0 p1 : PV) : evalFn (S.env L tab_52 81 Try.f81) [p0, p1] = ref14_CheckExceptions L p0 p1 := by kernel_rfl
theorem eq_115 (L : Lps) (p0 p1 : PV) : evalFn (S.env L tab_56 115 Try.f115) [p0, p1] = ref17_Find L p0 p1 := by kernel_rfl
theorem eq_105 (L : Lps) (p0 : PV) : evalFn (S.env L tab_60 105 Try.f105) [p0] = ref18_Sound L p0 := by kernel_rfl
theorem eq_117 (L : Lps) (p0 : PV) : evalFn (S.env L tab_64 117 Try.f117) [p0] = ref18_Starts L p0 := by kernel_rfl
theorem eq_127 (L : Lps) (p0 p1 : PV) : evalFn (S.env L tab_68 127 Try.f127) [p0, p1] = ref19_Next L p0 p1 := by kernel_rfl
theorem eq_108 (L : Lps) (p0 p1 p2 p3 : PV) : evalFn (S.env L tab_72 108 Try.f108) [p0, p1, p2, p3] = ref19_one L p0 p1 p2 p3 := by kernel_rfl
theorem eq_85 (L : Lps) (p0 p1 p2 p3 : PV) : evalFn (S.env L tab_76 85 Try.f85) [p0, p1, p2, p3] = ref19_CheckGuarantees L p0 p1 p2 p3 := by kernel_rfl
theorem eq_112 (L : Lps) (p0 : PV) : evalFn (S.env L tab_80 112 Try.f112) [p0] = ref21_Right L p0 := by kernel_rfl
theorem eq_9 (L : Lps) (p0 : PV) : evalFn (S.env L tab_84 9 Try.f9) [p0] = ref22_Few L p0 := by kernel_rfl
theorem eq_16 (L : Lps) (p0 : PV) : evalFn (S.env L tab_88 16 Try.f16) [p0] = law22_lower L p0 := by kernel_rfl
theorem eq_51 (L : Lps) (p0 p1 : PV) : evalFn (S.env L tab_92 51 Try.f51) [p0, p1] = ref22_heads L p0 p1 := by kernel_rfl
theorem eq_89 (L : Lps) (p0 p1 : PV) : evalFn (S.env L tab_96 89 Try.f89) [p0, p1] = timetable_same_Product L p0 p1 := by kernel_rfl
theorem eq_43 (L : Lps) (p0 p1 : PV) : evalFn (S.env L tab_100 43 Try.f43) [p0, p1] = timetable_same_Calendar L p0 p1 := by kernel_rfl
theorem eq_48 (L : Lps) (p0 p1 : PV) : evalFn (S.env L tab_104 48 Try.f48) [p0, p1] = timetable_same_Guarantee L p0 p1 := by kernel_rfl
theorem eq_17 (L : Lps) (p0 p1 : PV) : evalFn (S.env L tab_108 17 Try.f17) [p0, p1] = timetable_Equal L p0 p1 := by kernel_rfl
theorem eq_57 (L : Lps) (p0 : PV) : evalFn (S.env L tab_112 57 Try.f57) [p0] = timetable_copied_Exception L p0 := by kernel_rfl
theorem eq_64 (L : Lps) (p0 : PV) : evalFn (S.env L tab_116 64 Try.f64) [p0] = timetable_copied_Product L p0 := by kernel_rfl
theorem eq_58 (L : Lps) (p0 : PV) : evalFn (S.env L tab_120 58 Try.f58) [p0] = timetable_copied_Trip L p0 := by kernel_rfl
end Go.Proofs.Ytlgcompmkliiaaa
