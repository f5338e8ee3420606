/- The plain Lean functions are what the evaluator makes of the program. Printed by a program of the author. -/
import Derived.Test.YtinbhofpofcmeaaGreatDoorTab
namespace Go.Proofs.YtinbhofpofcmeaaGreatDoor
open Go.Ab
set_option maxRecDepth 1000000
theorem eq_36 (L : Lps) (p0 : PV) : evalFn (S.env L tab_4 otab_0 36 Tryz.f36) [p0] = date_Valid L p0 := by kernel_rfl
theorem eq_55 (L : Lps) (p0 p1 p2 p3 : PV) : evalFn (S.env L tab_8 otab_0 55 Tryz.f55) [p0, p1, p2, p3] = calendar_Reason L p0 p1 p2 p3 := by kernel_rfl
theorem eq_173 (L : Lps) (p0 p1 p2 : PV) : evalFn (S.env L tab_12 otab_0 173 Tryz.f173) [p0, p1, p2] = frequency_wide L p0 p1 p2 := by kernel_rfl
theorem eq_23 (L : Lps) (p0 p1 : PV) : evalFn (S.env L tab_16 otab_0 23 Tryz.f23) [p0, p1] = frequency_Instances L p0 p1 := by kernel_rfl
theorem eq_62 (L : Lps) (c0 c1 c2 c3 c4 c5 c6 c7 c8 c9 c10 c11 c12 : PV) : evalFn (S.env L tab_20 otab_0 62 Tryz.f62) [PV.rp [c0, c1, c2, c3, c4, c5, c6, c7, c8, c9, c10, c11, c12]] = timetable_Check_1 L c0 c1 c2 c3 c4 c5 c6 c7 c8 c9 c10 c11 c12 := by kernel_rfl
theorem eq_105 (L : Lps) (p0 : PV) : evalFn (S.env L tab_24 otab_0 105 Tryz.f105) [p0] = route_known L p0 := by kernel_rfl
theorem eq_66 (L : Lps) (c0 c1 c2 c3 c4 c5 c6 c7 c8 c9 c10 c11 c12 : PV) : evalFn (S.env L tab_28 otab_0 66 Tryz.f66) [PV.rp [c0, c1, c2, c3, c4, c5, c6, c7, c8, c9, c10, c11, c12]] = timetable_Check_3 L c0 c1 c2 c3 c4 c5 c6 c7 c8 c9 c10 c11 c12 := by kernel_rfl
theorem eq_106 (L : Lps) (p0 p1 p2 p3 : PV) : evalFn (S.env L tab_32 otab_0 106 Tryz.f106) [p0, p1, p2, p3] = call_Check L p0 p1 p2 p3 := by kernel_rfl
theorem eq_142 (L : Lps) (p0 : PV) : evalFn (S.env L tab_36 otab_0 142 Tryz.f142) [p0] = frequency_last L p0 := by kernel_rfl
theorem eq_110 (L : Lps) (p0 p1 : PV) : evalFn (S.env L tab_40 otab_0 110 Tryz.f110) [p0, p1] = through_follows L p0 p1 := by kernel_rfl
theorem eq_143 (L : Lps) (p0 c1 : PV) : evalFn (S.env L tab_44 otab_0 143 Tryz.f143) [p0, PV.rp [c1]] = through_pair_1 L p0 c1 := by kernel_rfl
theorem eq_139 (L : Lps) (p0 p1 : PV) : evalFn (S.env L tab_48 otab_0 139 Tryz.f139) [p0, p1] = through_alighting L p0 p1 := by kernel_rfl
theorem eq_76 (L : Lps) (c0 c1 c2 c3 c4 c5 c6 c7 c8 c9 c10 c11 c12 c13 : PV) : evalFn (S.env L tab_52 otab_0 76 Tryz.f76) [PV.rp [c0, c1, c2, c3, c4, c5, c6, c7, c8, c9, c10, c11, c12], PV.rp [c13]] = timetable_Check_8 L c0 c1 c2 c3 c4 c5 c6 c7 c8 c9 c10 c11 c12 c13 := by kernel_rfl
theorem eq_35 (L : Lps) (p0 : PV) : evalFn (S.env L tab_56 otab_0 35 Tryz.f35) [p0] = timetable_Check L p0 := by kernel_rfl
theorem eq_92 (L : Lps) (p0 p1 : PV) : evalFn (S.env L tab_60 otab_0 92 Tryz.f92) [p0, p1] = internal_stringslite_Cut L p0 p1 := by kernel_rfl
theorem eq_48 (L : Lps) (p0 p1 : PV) : evalFn (S.env L tab_64 otab_0 48 Tryz.f48) [p0, p1] = strings_CutPrefix L p0 p1 := by kernel_rfl
theorem eq_32 (L : Lps) (p0 : PV) : evalFn (S.env L tab_68 otab_0 32 Tryz.f32) [p0] = ref22_Few L p0 := by kernel_rfl
theorem eq_116 (L : Lps) (p0 : PV) : evalFn (S.env L tab_72 otab_0 116 Tryz.f116) [p0] = ref13_Check L p0 := by kernel_rfl
theorem eq_119 (L : Lps) (p0 p1 : PV) : evalFn (S.env L tab_76 otab_0 119 Tryz.f119) [p0, p1] = ref14_CheckExceptions L p0 p1 := by kernel_rfl
theorem eq_174 (L : Lps) (p0 p1 : PV) : evalFn (S.env L tab_80 otab_0 174 Tryz.f174) [p0, p1] = ref17_Find L p0 p1 := by kernel_rfl
theorem eq_153 (L : Lps) (p0 : PV) : evalFn (S.env L tab_84 otab_0 153 Tryz.f153) [p0] = ref18_count L p0 := by kernel_rfl
theorem eq_152 (L : Lps) (p0 p1 : PV) : evalFn (S.env L tab_88 otab_0 152 Tryz.f152) [p0, p1] = ref18_fits L p0 p1 := by kernel_rfl
theorem eq_179 (L : Lps) (p0 p1 : PV) : evalFn (S.env L tab_92 otab_0 179 Tryz.f179) [p0, p1] = ref19_Chain L p0 p1 := by kernel_rfl
theorem eq_122 (L : Lps) (p0 p1 p2 : PV) : evalFn (S.env L tab_96 otab_0 122 Tryz.f122) [p0, p1, p2] = ref19_Check L p0 p1 p2 := by kernel_rfl
theorem eq_156 (L : Lps) (p0 p1 : PV) : evalFn (S.env L tab_100 otab_0 156 Tryz.f156) [p0, p1] = ref20_valid L p0 p1 := by kernel_rfl
theorem eq_125 (L : Lps) (p0 : PV) : evalFn (S.env L tab_104 otab_0 125 Tryz.f125) [p0] = ref21_Check L p0 := by kernel_rfl
theorem eq_126 (L : Lps) (p0 p1 p2 p3 : PV) : evalFn (S.env L tab_108 otab_0 126 Tryz.f126) [p0, p1, p2, p3] = ref14_Reason L p0 p1 p2 p3 := by kernel_rfl
theorem eq_87 (L : Lps) (p0 p1 p2 p3 p4 : PV) : evalFn (S.env L tab_112 otab_0 87 Tryz.f87) [p0, p1, p2, p3, p4] = ref25_run L p0 p1 p2 p3 p4 := by kernel_rfl
theorem eq_90 (L : Lps) (p0 p1 : PV) : evalFn (S.env L tab_116 otab_0 90 Tryz.f90) [p0, p1] = ref18_SameCalls L p0 p1 := by kernel_rfl
theorem eq_103 (L : Lps) (p0 p1 p2 : PV) : evalFn (S.env L tab_120 otab_0 103 Tryz.f103) [p0, p1, p2] = ref25_find L p0 p1 p2 := by kernel_rfl
theorem eq_31 (L : Lps) (p0 p1 : PV) : evalFn (S.env L tab_124 otab_0 31 Tryz.f31) [p0, p1] = ref25_SameLinks L p0 p1 := by kernel_rfl
theorem eq_58 (L : Lps) (p0 p1 : PV) : evalFn (S.env L tab_128 otab_0 58 Tryz.f58) [p0, p1] = runs_index L p0 p1 := by kernel_rfl
theorem eq_11 (L : Lps) (p0 p1 p2 : PV) : evalFn (S.env L tab_132 otab_0 11 Tryz.f11) [p0, p1, p2] = law25_RunsMeet L p0 p1 p2 := by kernel_rfl
end Go.Proofs.YtinbhofpofcmeaaGreatDoor
