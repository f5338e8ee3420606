/- The plain Lean functions are what the evaluator makes of the program. Printed by a program of the author. -/
import Derived.Test.YtlgcompmkliiaaaTab
namespace Go.Proofs.Ytlgcompmkliiaaa
open Go.Ab
set_option maxRecDepth 1000000
theorem eq_77 (L : Lps) (p0 p1 p2 : PV) : evalFn (S.env L tab_3 otab_0 77 Try.f77) [p0, p1, p2] = product_within L p0 p1 p2 := by kernel_rfl
theorem eq_23 (L : Lps) (p0 : PV) : evalFn (S.env L tab_7 otab_0 23 Try.f23) [p0] = route_Check L p0 := by kernel_rfl
theorem eq_24 (L : Lps) (c0 c1 c2 c3 c4 c5 c6 c7 c8 c9 c10 c11 c12 : PV) : evalFn (S.env L tab_11 otab_0 24 Try.f24) [PV.rp [c0, c1, c2, c3, c4, c5, c6, c7, c8, c9, c10, c11, c12]] = timetable_Check_3 L c0 c1 c2 c3 c4 c5 c6 c7 c8 c9 c10 c11 c12 := by kernel_rfl
theorem eq_68 (L : Lps) (p0 p1 p2 p3 : PV) : evalFn (S.env L tab_15 otab_0 68 Try.f68) [p0, p1, p2, p3] = call_Check L p0 p1 p2 p3 := by kernel_rfl
theorem eq_124 (L : Lps) (p0 : PV) : evalFn (S.env L tab_19 otab_0 124 Try.f124) [p0] = frequency_moved_1 L p0 := by kernel_rfl
theorem eq_92 (L : Lps) (p0 : PV) : evalFn (S.env L tab_23 otab_0 92 Try.f92) [p0] = frequency_last L p0 := by kernel_rfl
theorem eq_30 (L : Lps) (c0 c1 c2 c3 c4 c5 c6 c7 c8 c9 c10 c11 c12 : PV) : evalFn (S.env L tab_27 otab_0 30 Try.f30) [PV.rp [c0, c1, c2, c3, c4, c5, c6, c7, c8, c9, c10, c11, c12]] = timetable_Check_6 L c0 c1 c2 c3 c4 c5 c6 c7 c8 c9 c10 c11 c12 := by kernel_rfl
theorem eq_74 (L : Lps) (p0 p1 p2 : PV) : evalFn (S.env L tab_31 otab_0 74 Try.f74) [p0, p1, p2] = through_leads L p0 p1 p2 := by kernel_rfl
theorem eq_33 (L : Lps) (p0 p1 p2 : PV) : evalFn (S.env L tab_35 otab_0 33 Try.f33) [p0, p1, p2] = through_Check L p0 p1 p2 := by kernel_rfl
theorem eq_75 (L : Lps) (p0 p1 p2 : PV) : evalFn (S.env L tab_39 otab_0 75 Try.f75) [p0, p1, p2] = through_Meets L p0 p1 p2 := by kernel_rfl
theorem eq_37 (L : Lps) (p0 p1 : PV) : evalFn (S.env L tab_43 otab_0 37 Try.f37) [p0, p1] = footpath_Check L p0 p1 := by kernel_rfl
theorem eq_10 (L : Lps) : evalFn (S.env L tab_47 otab_0 10 Try.f10) [] = law22_exampleHolds L  := by kernel_rfl
theorem eq_103 (L : Lps) (p0 : PV) : evalFn (S.env L tab_51 otab_0 103 Try.f103) [p0] = ref02_Valid L p0 := by kernel_rfl
theorem eq_100 (L : Lps) (p0 : PV) : evalFn (S.env L tab_55 otab_0 100 Try.f100) [p0] = ref15_Name L p0 := by kernel_rfl
theorem eq_116 (L : Lps) (p0 p1 : PV) : evalFn (S.env L tab_59 otab_0 116 Try.f116) [p0, p1] = ref17_calls L p0 p1 := by kernel_rfl
theorem eq_107 (L : Lps) (p0 : PV) : evalFn (S.env L tab_63 otab_0 107 Try.f107) [p0] = ref18_count L p0 := by kernel_rfl
theorem eq_106 (L : Lps) (p0 p1 : PV) : evalFn (S.env L tab_67 otab_0 106 Try.f106) [p0, p1] = ref18_fits L p0 p1 := by kernel_rfl
theorem eq_122 (L : Lps) (p0 p1 : PV) : evalFn (S.env L tab_71 otab_0 122 Try.f122) [p0, p1] = ref19_Chain L p0 p1 := by kernel_rfl
theorem eq_84 (L : Lps) (p0 p1 p2 : PV) : evalFn (S.env L tab_75 otab_0 84 Try.f84) [p0, p1, p2] = ref19_Check L p0 p1 p2 := by kernel_rfl
theorem eq_110 (L : Lps) (p0 p1 : PV) : evalFn (S.env L tab_79 otab_0 110 Try.f110) [p0, p1] = ref20_valid L p0 p1 := by kernel_rfl
theorem eq_87 (L : Lps) (p0 : PV) : evalFn (S.env L tab_83 otab_0 87 Try.f87) [p0] = ref21_Check L p0 := by kernel_rfl
theorem eq_3 (L : Lps) (p0 : PV) : evalFn (S.env L tab_87 otab_0 3 Try.f3) [p0] = law22_TimetableChecks L p0 := by kernel_rfl
theorem eq_15 (L : Lps) (p0 : PV) : evalFn (S.env L tab_91 otab_0 15 Try.f15) [p0] = law22_upper L p0 := by kernel_rfl
theorem eq_53 (L : Lps) (p0 p1 : PV) : evalFn (S.env L tab_95 otab_0 53 Try.f53) [p0, p1] = ref22_tails L p0 p1 := by kernel_rfl
theorem eq_50 (L : Lps) (p0 p1 : PV) : evalFn (S.env L tab_99 otab_0 50 Try.f50) [p0, p1] = timetable_sameFares L p0 p1 := by kernel_rfl
theorem eq_44 (L : Lps) (p0 p1 : PV) : evalFn (S.env L tab_103 otab_0 44 Try.f44) [p0, p1] = timetable_same_Exception L p0 p1 := by kernel_rfl
theorem eq_42 (L : Lps) (p0 p1 : PV) : evalFn (S.env L tab_107 otab_0 42 Try.f42) [p0, p1] = timetable_same_Route L p0 p1 := by kernel_rfl
theorem eq_7 (L : Lps) (p0 p1 : PV) : evalFn (S.env L tab_111 otab_0 7 Try.f7) [p0, p1] = law22_TimetableEquals L p0 p1 := by kernel_rfl
theorem eq_62 (L : Lps) (p0 : PV) : evalFn (S.env L tab_115 otab_0 62 Try.f62) [p0] = timetable_copied_Footpath L p0 := by kernel_rfl
theorem eq_55 (L : Lps) (p0 : PV) : evalFn (S.env L tab_119 otab_0 55 Try.f55) [p0] = timetable_copied_Route L p0 := by kernel_rfl
theorem eq_19 (L : Lps) (p0 : PV) : evalFn (S.env L tab_122 otab_1 19 Try.f19) [p0] = timetable_Clone L p0 := by kernel_rfl
end Go.Proofs.Ytlgcompmkliiaaa
