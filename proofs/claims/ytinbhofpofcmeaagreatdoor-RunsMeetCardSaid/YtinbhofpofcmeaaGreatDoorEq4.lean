/- The plain Lean functions are what the evaluator makes of the program. Printed by a program of the author. -/
import Derived.Test.YtinbhofpofcmeaaGreatDoorTab
namespace Go.Proofs.YtinbhofpofcmeaaGreatDoor
open Go.Ab
set_option maxRecDepth 1000000
theorem eq_17 (L : Lps) (p0 : PV) : evalFn (S.env L tab_6 otab_0 17 Tryz.f17) [p0] = runs_Key L p0 := by kernel_rfl
theorem eq_114 (L : Lps) (p0 p1 : PV) : evalFn (S.env L tab_10 otab_0 114 Tryz.f114) [p0, p1] = call_Shift L p0 p1 := by kernel_rfl
theorem eq_115 (L : Lps) (p0 p1 : PV) : evalFn (S.env L tab_14 otab_0 115 Tryz.f115) [p0, p1] = frequency_Calls L p0 p1 := by kernel_rfl
theorem eq_37 (L : Lps) (p0 p1 p2 : PV) : evalFn (S.env L tab_18 otab_0 37 Tryz.f37) [p0, p1, p2] = runs_days L p0 p1 p2 := by kernel_rfl
theorem eq_81 (L : Lps) (p0 : PV) : evalFn (S.env L tab_22 otab_0 81 Tryz.f81) [p0] = product_Check L p0 := by kernel_rfl
theorem eq_64 (L : Lps) (c0 c1 c2 c3 c4 c5 c6 c7 c8 c9 c10 c11 c12 : PV) : evalFn (S.env L tab_26 otab_0 64 Tryz.f64) [PV.rp [c0, c1, c2, c3, c4, c5, c6, c7, c8, c9, c10, c11, c12]] = timetable_Check_2 L c0 c1 c2 c3 c4 c5 c6 c7 c8 c9 c10 c11 c12 := by kernel_rfl
theorem eq_68 (L : Lps) (c0 c1 c2 c3 c4 c5 c6 c7 c8 c9 c10 c11 c12 c13 : PV) : evalFn (S.env L tab_30 otab_0 68 Tryz.f68) [PV.rp [c0, c1, c2, c3, c4, c5, c6, c7, c8, c9, c10, c11, c12], PV.rp [c13]] = timetable_Check_4 L c0 c1 c2 c3 c4 c5 c6 c7 c8 c9 c10 c11 c12 c13 := by kernel_rfl
theorem eq_70 (L : Lps) (c0 c1 c2 c3 c4 c5 c6 c7 c8 c9 c10 c11 c12 c13 c14 c15 : PV) : evalFn (S.env L tab_34 otab_0 70 Tryz.f70) [PV.rp [c0, c1, c2, c3, c4, c5, c6, c7, c8, c9, c10, c11, c12], PV.rp [c13], PV.rp [c14], PV.rp [c15]] = timetable_Check_5 L c0 c1 c2 c3 c4 c5 c6 c7 c8 c9 c10 c11 c12 c13 c14 c15 := by kernel_rfl
theorem eq_73 (L : Lps) (p0 p1 : PV) : evalFn (S.env L tab_38 otab_0 73 Tryz.f73) [p0, p1] = frequency_Check L p0 p1 := by kernel_rfl
theorem eq_144 (L : Lps) (p0 p1 : PV) : evalFn (S.env L tab_42 otab_0 144 Tryz.f144) [p0, p1] = through_Chain L p0 p1 := by kernel_rfl
theorem eq_75 (L : Lps) (p0 p1 p2 : PV) : evalFn (S.env L tab_46 otab_0 75 Tryz.f75) [p0, p1, p2] = through_Check L p0 p1 p2 := by kernel_rfl
theorem eq_101 (L : Lps) (p0 p1 p2 : PV) : evalFn (S.env L tab_50 otab_0 101 Tryz.f101) [p0, p1, p2] = through_Meets L p0 p1 p2 := by kernel_rfl
theorem eq_79 (L : Lps) (p0 p1 : PV) : evalFn (S.env L tab_54 otab_0 79 Tryz.f79) [p0, p1] = footpath_Check L p0 p1 := by kernel_rfl
theorem eq_49 (L : Lps) (p0 : PV) : evalFn (S.env L tab_58 otab_0 49 Tryz.f49) [p0] = runs_canonical L p0 := by kernel_rfl
theorem eq_131 (L : Lps) (p0 p1 : PV) : evalFn (S.env L tab_62 otab_0 131 Tryz.f131) [p0, p1] = internal_stringslite_HasPrefix L p0 p1 := by kernel_rfl
theorem eq_13 (L : Lps) : evalFn (S.env L tab_66 otab_0 13 Tryz.f13) [] = law25_exampleHolds L  := by kernel_rfl
theorem eq_146 (L : Lps) (p0 p1 : PV) : evalFn (S.env L tab_70 otab_0 146 Tryz.f146) [p0, p1] = ref13_Find L p0 p1 := by kernel_rfl
theorem eq_149 (L : Lps) (p0 : PV) : evalFn (S.env L tab_74 otab_0 149 Tryz.f149) [p0] = ref05_Valid L p0 := by kernel_rfl
theorem eq_148 (L : Lps) (p0 : PV) : evalFn (S.env L tab_78 otab_0 148 Tryz.f148) [p0] = ref15_mode L p0 := by kernel_rfl
theorem eq_151 (L : Lps) (p0 p1 p2 p3 p4 : PV) : evalFn (S.env L tab_82 otab_0 151 Tryz.f151) [p0, p1, p2, p3, p4] = ref17_one L p0 p1 p2 p3 p4 := by kernel_rfl
theorem eq_89 (L : Lps) (p0 p1 : PV) : evalFn (S.env L tab_86 otab_0 89 Tryz.f89) [p0, p1] = ref18_Calls L p0 p1 := by kernel_rfl
theorem eq_178 (L : Lps) (p0 p1 : PV) : evalFn (S.env L tab_90 otab_0 178 Tryz.f178) [p0, p1] = ref19_Has L p0 p1 := by kernel_rfl
theorem eq_177 (L : Lps) (p0 p1 : PV) : evalFn (S.env L tab_94 otab_0 177 Tryz.f177) [p0, p1] = ref19_repeated L p0 p1 := by kernel_rfl
theorem eq_155 (L : Lps) (p0 p1 p2 p3 p4 : PV) : evalFn (S.env L tab_98 otab_0 155 Tryz.f155) [p0, p1, p2, p3, p4] = ref19_guarantee L p0 p1 p2 p3 p4 := by kernel_rfl
theorem eq_157 (L : Lps) (p0 p1 p2 : PV) : evalFn (S.env L tab_102 otab_0 157 Tryz.f157) [p0, p1, p2] = ref21_within L p0 p1 p2 := by kernel_rfl
theorem eq_38 (L : Lps) (p0 : PV) : evalFn (S.env L tab_106 otab_0 38 Tryz.f38) [p0] = ref22_Check L p0 := by kernel_rfl
theorem eq_88 (L : Lps) (p0 p1 : PV) : evalFn (S.env L tab_110 otab_0 88 Tryz.f88) [p0, p1] = ref18_Instances L p0 p1 := by kernel_rfl
theorem eq_39 (L : Lps) (p0 : PV) : evalFn (S.env L tab_114 otab_0 39 Tryz.f39) [p0] = ref25_ValidDay L p0 := by kernel_rfl
theorem eq_28 (L : Lps) (p0 p1 p2 : PV) : evalFn (S.env L tab_118 otab_0 28 Tryz.f28) [p0, p1, p2] = ref25_OfDays L p0 p1 p2 := by kernel_rfl
theorem eq_60 (L : Lps) (p0 p1 : PV) : evalFn (S.env L tab_122 otab_0 60 Tryz.f60) [p0, p1] = ref25_known L p0 p1 := by kernel_rfl
theorem eq_138 (L : Lps) (p0 p1 : PV) : evalFn (S.env L tab_126 otab_0 138 Tryz.f138) [p0, p1] = runs_same L p0 p1 := by kernel_rfl
theorem eq_29 (L : Lps) (p0 p1 : PV) : evalFn (S.env L tab_130 otab_0 29 Tryz.f29) [p0, p1] = runs_Links L p0 p1 := by kernel_rfl
end Go.Proofs.YtinbhofpofcmeaaGreatDoor
