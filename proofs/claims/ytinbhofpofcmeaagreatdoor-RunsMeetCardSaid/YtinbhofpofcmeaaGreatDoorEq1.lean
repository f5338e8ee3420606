/- The plain Lean functions are what the evaluator makes of the program. Printed by a program of the author. -/
import Derived.Test.YtinbhofpofcmeaaGreatDoorTab
namespace Go.Proofs.YtinbhofpofcmeaaGreatDoor
open Go.Ab
set_option maxRecDepth 1000000
theorem eq_34 (L : Lps) : evalFn (S.env L tab_3 otab_0 34 Tryz.f34) [] = law25_sample L  := by kernel_rfl
theorem eq_96 (L : Lps) (p0 : PV) : evalFn (S.env L tab_7 otab_0 96 Tryz.f96) [p0] = date_Weekday L p0 := by kernel_rfl
theorem eq_172 (L : Lps) (p0 : PV) : evalFn (S.env L tab_11 otab_0 172 Tryz.f172) [p0] = frequency_moved_1 L p0 := by kernel_rfl
theorem eq_98 (L : Lps) (p0 : PV) : evalFn (S.env L tab_15 otab_0 98 Tryz.f98) [p0] = frequency_sound L p0 := by kernel_rfl
theorem eq_63 (L : Lps) (p0 : PV) : evalFn (S.env L tab_19 otab_0 63 Tryz.f63) [p0] = stop_Check L p0 := by kernel_rfl
theorem eq_80 (L : Lps) (c0 c1 c2 c3 c4 c5 c6 c7 c8 c9 c10 c11 c12 : PV) : evalFn (S.env L tab_23 otab_0 80 Tryz.f80) [PV.rp [c0, c1, c2, c3, c4, c5, c6, c7, c8, c9, c10, c11, c12]] = timetable_Check_10 L c0 c1 c2 c3 c4 c5 c6 c7 c8 c9 c10 c11 c12 := by kernel_rfl
theorem eq_67 (L : Lps) (p0 : PV) : evalFn (S.env L tab_27 otab_0 67 Tryz.f67) [p0] = calendar_Check L p0 := by kernel_rfl
theorem eq_141 (L : Lps) (p0 p1 p2 p3 p4 : PV) : evalFn (S.env L tab_31 otab_0 141 Tryz.f141) [p0, p1, p2, p3, p4] = call_one L p0 p1 p2 p3 p4 := by kernel_rfl
theorem eq_108 (L : Lps) (p0 : PV) : evalFn (S.env L tab_35 otab_0 108 Tryz.f108) [p0] = frequency_count L p0 := by kernel_rfl
theorem eq_72 (L : Lps) (c0 c1 c2 c3 c4 c5 c6 c7 c8 c9 c10 c11 c12 : PV) : evalFn (S.env L tab_39 otab_0 72 Tryz.f72) [PV.rp [c0, c1, c2, c3, c4, c5, c6, c7, c8, c9, c10, c11, c12]] = timetable_Check_6 L c0 c1 c2 c3 c4 c5 c6 c7 c8 c9 c10 c11 c12 := by kernel_rfl
theorem eq_111 (L : Lps) (p0 p1 p2 : PV) : evalFn (S.env L tab_43 otab_0 111 Tryz.f111) [p0, p1, p2] = through_leads L p0 p1 p2 := by kernel_rfl
theorem eq_74 (L : Lps) (c0 c1 c2 c3 c4 c5 c6 c7 c8 c9 c10 c11 c12 : PV) : evalFn (S.env L tab_47 otab_0 74 Tryz.f74) [PV.rp [c0, c1, c2, c3, c4, c5, c6, c7, c8, c9, c10, c11, c12]] = timetable_Check_7 L c0 c1 c2 c3 c4 c5 c6 c7 c8 c9 c10 c11 c12 := by kernel_rfl
theorem eq_77 (L : Lps) (p0 p1 p2 p3 : PV) : evalFn (S.env L tab_51 otab_0 77 Tryz.f77) [p0, p1, p2, p3] = through_CheckGuarantees L p0 p1 p2 p3 := by kernel_rfl
theorem eq_78 (L : Lps) (c0 c1 c2 c3 c4 c5 c6 c7 c8 c9 c10 c11 c12 c13 : PV) : evalFn (S.env L tab_55 otab_0 78 Tryz.f78) [PV.rp [c0, c1, c2, c3, c4, c5, c6, c7, c8, c9, c10, c11, c12], PV.rp [c13]] = timetable_Check_9 L c0 c1 c2 c3 c4 c5 c6 c7 c8 c9 c10 c11 c12 c13 := by kernel_rfl
theorem eq_47 (L : Lps) (p0 : PV) : evalFn (S.env L tab_59 otab_0 47 Tryz.f47) [p0] = runs_digits L p0 := by kernel_rfl
theorem eq_93 (L : Lps) (p0 p1 : PV) : evalFn (S.env L tab_63 otab_0 93 Tryz.f93) [p0, p1] = internal_stringslite_CutPrefix L p0 p1 := by kernel_rfl
theorem eq_33 (L : Lps) (p0 : PV) : evalFn (S.env L tab_67 otab_0 33 Tryz.f33) [p0] = ref18_Sound L p0 := by kernel_rfl
theorem eq_44 (L : Lps) (p0 : PV) : evalFn (S.env L tab_71 otab_0 44 Tryz.f44) [p0] = ref13_Identifier L p0 := by kernel_rfl
theorem eq_118 (L : Lps) (p0 : PV) : evalFn (S.env L tab_75 otab_0 118 Tryz.f118) [p0] = ref14_Check L p0 := by kernel_rfl
theorem eq_117 (L : Lps) (p0 : PV) : evalFn (S.env L tab_79 otab_0 117 Tryz.f117) [p0] = ref15_Check L p0 := by kernel_rfl
theorem eq_120 (L : Lps) (p0 p1 p2 p3 : PV) : evalFn (S.env L tab_83 otab_0 120 Tryz.f120) [p0, p1, p2, p3] = ref17_Check L p0 p1 p2 p3 := by kernel_rfl
theorem eq_127 (L : Lps) (p0 : PV) : evalFn (S.env L tab_87 otab_0 127 Tryz.f127) [p0] = ref18_Starts L p0 := by kernel_rfl
theorem eq_102 (L : Lps) (p0 p1 : PV) : evalFn (S.env L tab_91 otab_0 102 Tryz.f102) [p0, p1] = ref19_Next L p0 p1 := by kernel_rfl
theorem eq_154 (L : Lps) (p0 p1 p2 p3 : PV) : evalFn (S.env L tab_95 otab_0 154 Tryz.f154) [p0, p1, p2, p3] = ref19_one L p0 p1 p2 p3 := by kernel_rfl
theorem eq_123 (L : Lps) (p0 p1 p2 p3 : PV) : evalFn (S.env L tab_99 otab_0 123 Tryz.f123) [p0, p1, p2, p3] = ref19_CheckGuarantees L p0 p1 p2 p3 := by kernel_rfl
theorem eq_158 (L : Lps) (p0 : PV) : evalFn (S.env L tab_103 otab_0 158 Tryz.f158) [p0] = ref21_Right L p0 := by kernel_rfl
theorem eq_159 (L : Lps) (p0 : PV) : evalFn (S.env L tab_107 otab_0 159 Tryz.f159) [p0] = ref02_Weekday L p0 := by kernel_rfl
theorem eq_86 (L : Lps) (p0 p1 : PV) : evalFn (S.env L tab_111 otab_0 86 Tryz.f86) [p0, p1] = ref18_Repeated L p0 p1 := by kernel_rfl
theorem eq_15 (L : Lps) (p0 p1 : PV) : evalFn (S.env L tab_115 otab_0 15 Tryz.f15) [p0, p1] = ref25_OfDay L p0 p1 := by kernel_rfl
theorem eq_27 (L : Lps) (p0 p1 p2 : PV) : evalFn (S.env L tab_119 otab_0 27 Tryz.f27) [p0, p1, p2] = runs_OfDays L p0 p1 p2 := by kernel_rfl
theorem eq_30 (L : Lps) (p0 p1 : PV) : evalFn (S.env L tab_123 otab_0 30 Tryz.f30) [p0, p1] = ref25_Links L p0 p1 := by kernel_rfl
theorem eq_99 (L : Lps) (p0 p1 : PV) : evalFn (S.env L tab_127 otab_0 99 Tryz.f99) [p0, p1] = runs_operates L p0 p1 := by kernel_rfl
theorem eq_10 (L : Lps) (p0 p1 : PV) : evalFn (S.env L tab_131 otab_0 10 Tryz.f10) [p0, p1] = law25_RunsLinks L p0 p1 := by kernel_rfl
end Go.Proofs.YtinbhofpofcmeaaGreatDoor
