/- The plain Lean functions are what the evaluator makes of the program. Printed by a program of the author. -/
import Derived.Test.YtnbhhepiekhbjaaGreatTab
namespace Go.Proofs.YtnbhhepiekhbjaaGreat
open Go.Ab
set_option maxRecDepth 1000000
theorem eq_15 (L : Lps) (p0 p1 : PV) : evalFn (S.env L tab_3 otab_0 15 Tryz.f15) [p0, p1] = lint_Text L p0 p1 := by kernel_rfl
theorem eq_127 (L : Lps) (p0 p1 p2 p3 : PV) : evalFn (S.env L tab_7 otab_0 127 Tryz.f127) [p0, p1, p2, p3] = calendar_Reason L p0 p1 p2 p3 := by kernel_rfl
theorem eq_25 (L : Lps) (p0 : PV) : evalFn (S.env L tab_11 otab_0 25 Tryz.f25) [p0] = lint_overtaking L p0 := by kernel_rfl
theorem eq_27 (L : Lps) (p0 : PV) : evalFn (S.env L tab_15 otab_0 27 Tryz.f27) [p0] = lint_unpaid L p0 := by kernel_rfl
theorem eq_50 (L : Lps) (c0 c1 c2 c3 c4 c5 c6 c7 c8 c9 c10 c11 c12 : PV) : evalFn (S.env L tab_19 otab_0 50 Tryz.f50) [PV.rp [c0, c1, c2, c3, c4, c5, c6, c7, c8, c9, c10, c11, c12]] = timetable_Check_1 L c0 c1 c2 c3 c4 c5 c6 c7 c8 c9 c10 c11 c12 := by kernel_rfl
theorem eq_92 (L : Lps) (p0 : PV) : evalFn (S.env L tab_23 otab_0 92 Tryz.f92) [p0] = route_known L p0 := by kernel_rfl
theorem eq_54 (L : Lps) (c0 c1 c2 c3 c4 c5 c6 c7 c8 c9 c10 c11 c12 : PV) : evalFn (S.env L tab_27 otab_0 54 Tryz.f54) [PV.rp [c0, c1, c2, c3, c4, c5, c6, c7, c8, c9, c10, c11, c12]] = timetable_Check_3 L c0 c1 c2 c3 c4 c5 c6 c7 c8 c9 c10 c11 c12 := by kernel_rfl
theorem eq_94 (L : Lps) (p0 p1 p2 p3 : PV) : evalFn (S.env L tab_31 otab_0 94 Tryz.f94) [p0, p1, p2, p3] = call_Check L p0 p1 p2 p3 := by kernel_rfl
theorem eq_134 (L : Lps) (p0 : PV) : evalFn (S.env L tab_35 otab_0 134 Tryz.f134) [p0] = frequency_moved_1 L p0 := by kernel_rfl
theorem eq_121 (L : Lps) (p0 : PV) : evalFn (S.env L tab_39 otab_0 121 Tryz.f121) [p0] = frequency_last L p0 := by kernel_rfl
theorem eq_60 (L : Lps) (c0 c1 c2 c3 c4 c5 c6 c7 c8 c9 c10 c11 c12 : PV) : evalFn (S.env L tab_43 otab_0 60 Tryz.f60) [PV.rp [c0, c1, c2, c3, c4, c5, c6, c7, c8, c9, c10, c11, c12]] = timetable_Check_6 L c0 c1 c2 c3 c4 c5 c6 c7 c8 c9 c10 c11 c12 := by kernel_rfl
theorem eq_100 (L : Lps) (p0 p1 p2 : PV) : evalFn (S.env L tab_47 otab_0 100 Tryz.f100) [p0, p1, p2] = through_leads L p0 p1 p2 := by kernel_rfl
theorem eq_63 (L : Lps) (p0 p1 p2 : PV) : evalFn (S.env L tab_51 otab_0 63 Tryz.f63) [p0, p1, p2] = through_Check L p0 p1 p2 := by kernel_rfl
theorem eq_101 (L : Lps) (p0 p1 p2 : PV) : evalFn (S.env L tab_55 otab_0 101 Tryz.f101) [p0, p1, p2] = through_Meets L p0 p1 p2 := by kernel_rfl
theorem eq_67 (L : Lps) (p0 p1 : PV) : evalFn (S.env L tab_59 otab_0 67 Tryz.f67) [p0, p1] = footpath_Check L p0 p1 := by kernel_rfl
theorem eq_74 (L : Lps) (p0 p1 : PV) : evalFn (S.env L tab_63 otab_0 74 Tryz.f74) [p0, p1] = trip_Overtakes L p0 p1 := by kernel_rfl
theorem eq_48 (L : Lps) (p0 : PV) : evalFn (S.env L tab_67 otab_0 48 Tryz.f48) [p0] = ref18_Sound L p0 := by kernel_rfl
theorem eq_80 (L : Lps) (p0 : PV) : evalFn (S.env L tab_71 otab_0 80 Tryz.f80) [p0] = ref02_Valid L p0 := by kernel_rfl
theorem eq_42 (L : Lps) (p0 p1 p2 p3 : PV) : evalFn (S.env L tab_75 otab_0 42 Tryz.f42) [p0, p1, p2, p3] = ref14_Next L p0 p1 p2 p3 := by kernel_rfl
theorem eq_89 (L : Lps) (p0 p1 : PV) : evalFn (S.env L tab_79 otab_0 89 Tryz.f89) [p0, p1] = ref17_Overtakes L p0 p1 := by kernel_rfl
theorem eq_45 (L : Lps) (p0 p1 : PV) : evalFn (S.env L tab_83 otab_0 45 Tryz.f45) [p0, p1] = ref24_paid L p0 p1 := by kernel_rfl
theorem eq_14 (L : Lps) (p0 p1 : PV) : evalFn (S.env L tab_87 otab_0 14 Tryz.f14) [p0, p1] = ref24_Holds L p0 p1 := by kernel_rfl
theorem eq_79 (L : Lps) (p0 : PV) : evalFn (S.env L tab_91 otab_0 79 Tryz.f79) [p0] = ref05_Valid L p0 := by kernel_rfl
theorem eq_78 (L : Lps) (p0 : PV) : evalFn (S.env L tab_95 otab_0 78 Tryz.f78) [p0] = ref15_mode L p0 := by kernel_rfl
theorem eq_81 (L : Lps) (p0 p1 p2 p3 p4 : PV) : evalFn (S.env L tab_99 otab_0 81 Tryz.f81) [p0, p1, p2, p3, p4] = ref17_one L p0 p1 p2 p3 p4 := by kernel_rfl
theorem eq_109 (L : Lps) (p0 : PV) : evalFn (S.env L tab_103 otab_0 109 Tryz.f109) [p0] = ref18_Starts L p0 := by kernel_rfl
theorem eq_129 (L : Lps) (p0 p1 : PV) : evalFn (S.env L tab_107 otab_0 129 Tryz.f129) [p0, p1] = ref19_Next L p0 p1 := by kernel_rfl
theorem eq_83 (L : Lps) (p0 p1 p2 p3 : PV) : evalFn (S.env L tab_111 otab_0 83 Tryz.f83) [p0, p1, p2, p3] = ref19_one L p0 p1 p2 p3 := by kernel_rfl
theorem eq_36 (L : Lps) (p0 p1 p2 p3 : PV) : evalFn (S.env L tab_115 otab_0 36 Tryz.f36) [p0, p1, p2, p3] = ref19_CheckGuarantees L p0 p1 p2 p3 := by kernel_rfl
theorem eq_87 (L : Lps) (p0 : PV) : evalFn (S.env L tab_119 otab_0 87 Tryz.f87) [p0] = ref21_Right L p0 := by kernel_rfl
end Go.Proofs.YtnbhhepiekhbjaaGreat
