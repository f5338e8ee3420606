/- The plain Lean functions are what the evaluator makes of the program. Printed by a program of the author. -/
import Derived.Test.YtlgcompmkliiaaaTab
namespace Go.Proofs.Ytlgcompmkliiaaa
open Go.Ab
set_option maxRecDepth 1000000
theorem eq_21 (L : Lps) (p0 : PV) : evalFn (S.env L tab_1 21 Try.f21) [p0] = stop_Check L p0 := by kernel_rfl
theorem eq_38 (L : Lps) (c0 c1 c2 c3 c4 c5 c6 c7 c8 c9 c10 c11 c12 : PV) : evalFn (S.env L tab_5 38 Try.f38) [PV.rp [c0, c1, c2, c3, c4, c5, c6, c7, c8, c9, c10, c11, c12]] = timetable_Check_10 L c0 c1 c2 c3 c4 c5 c6 c7 c8 c9 c10 c11 c12 := by kernel_rfl
theorem eq_67 (L : Lps) (p0 : PV) : evalFn (S.env L tab_9 67 Try.f67) [p0] = date_Valid L p0 := by kernel_rfl
theorem eq_26 (L : Lps) (c0 c1 c2 c3 c4 c5 c6 c7 c8 c9 c10 c11 c12 c13 : PV) : evalFn (S.env L tab_13 26 Try.f26) [PV.rp [c0, c1, c2, c3, c4, c5, c6, c7, c8, c9, c10, c11, c12], PV.rp [c13]] = timetable_Check_4 L c0 c1 c2 c3 c4 c5 c6 c7 c8 c9 c10 c11 c12 c13 := by kernel_rfl
theorem eq_28 (L : Lps) (c0 c1 c2 c3 c4 c5 c6 c7 c8 c9 c10 c11 c12 c13 c14 c15 : PV) : evalFn (S.env L tab_17 28 Try.f28) [PV.rp [c0, c1, c2, c3, c4, c5, c6, c7, c8, c9, c10, c11, c12], PV.rp [c13], PV.rp [c14], PV.rp [c15]] = timetable_Check_5 L c0 c1 c2 c3 c4 c5 c6 c7 c8 c9 c10 c11 c12 c13 c14 c15 := by kernel_rfl
theorem eq_91 (L : Lps) (p0 p1 : PV) : evalFn (S.env L tab_21 91 Try.f91) [p0, p1] = frequency_Calls L p0 p1 := by kernel_rfl
theorem eq_31 (L : Lps) (p0 p1 : PV) : evalFn (S.env L tab_25 31 Try.f31) [p0, p1] = frequency_Check L p0 p1 := by kernel_rfl
theorem eq_95 (L : Lps) (p0 p1 : PV) : evalFn (S.env L tab_29 95 Try.f95) [p0, p1] = through_Chain L p0 p1 := by kernel_rfl
theorem eq_33 (L : Lps) (p0 p1 p2 : PV) : evalFn (S.env L tab_33 33 Try.f33) [p0, p1, p2] = through_Check L p0 p1 p2 := by kernel_rfl
theorem eq_75 (L : Lps) (p0 p1 p2 : PV) : evalFn (S.env L tab_37 75 Try.f75) [p0, p1, p2] = through_Meets L p0 p1 p2 := by kernel_rfl
theorem eq_37 (L : Lps) (p0 p1 : PV) : evalFn (S.env L tab_41 37 Try.f37) [p0, p1] = footpath_Check L p0 p1 := by kernel_rfl
theorem eq_10 (L : Lps) : evalFn (S.env L tab_45 10 Try.f10) [] = law22_exampleHolds L  := by kernel_rfl
theorem eq_103 (L : Lps) (p0 : PV) : evalFn (S.env L tab_49 103 Try.f103) [p0] = ref02_Valid L p0 := by kernel_rfl
theorem eq_100 (L : Lps) (p0 : PV) : evalFn (S.env L tab_53 100 Try.f100) [p0] = ref15_Name L p0 := by kernel_rfl
theorem eq_116 (L : Lps) (p0 p1 : PV) : evalFn (S.env L tab_57 116 Try.f116) [p0, p1] = ref17_calls L p0 p1 := by kernel_rfl
theorem eq_107 (L : Lps) (p0 : PV) : evalFn (S.env L tab_61 107 Try.f107) [p0] = ref18_count L p0 := by kernel_rfl
theorem eq_106 (L : Lps) (p0 p1 : PV) : evalFn (S.env L tab_65 106 Try.f106) [p0, p1] = ref18_fits L p0 p1 := by kernel_rfl
theorem eq_122 (L : Lps) (p0 p1 : PV) : evalFn (S.env L tab_69 122 Try.f122) [p0, p1] = ref19_Chain L p0 p1 := by kernel_rfl
theorem eq_84 (L : Lps) (p0 p1 p2 : PV) : evalFn (S.env L tab_73 84 Try.f84) [p0, p1, p2] = ref19_Check L p0 p1 p2 := by kernel_rfl
theorem eq_110 (L : Lps) (p0 p1 : PV) : evalFn (S.env L tab_77 110 Try.f110) [p0, p1] = ref20_valid L p0 p1 := by kernel_rfl
theorem eq_87 (L : Lps) (p0 : PV) : evalFn (S.env L tab_81 87 Try.f87) [p0] = ref21_Check L p0 := by kernel_rfl
theorem eq_3 (L : Lps) (p0 : PV) : evalFn (S.env L tab_85 3 Try.f3) [p0] = law22_TimetableChecks L p0 := by kernel_rfl
theorem eq_15 (L : Lps) (p0 : PV) : evalFn (S.env L tab_89 15 Try.f15) [p0] = law22_upper L p0 := by kernel_rfl
theorem eq_53 (L : Lps) (p0 p1 : PV) : evalFn (S.env L tab_93 53 Try.f53) [p0, p1] = ref22_tails L p0 p1 := by kernel_rfl
theorem eq_50 (L : Lps) (p0 p1 : PV) : evalFn (S.env L tab_97 50 Try.f50) [p0, p1] = timetable_sameFares L p0 p1 := by kernel_rfl
theorem eq_44 (L : Lps) (p0 p1 : PV) : evalFn (S.env L tab_101 44 Try.f44) [p0, p1] = timetable_same_Exception L p0 p1 := by kernel_rfl
theorem eq_42 (L : Lps) (p0 p1 : PV) : evalFn (S.env L tab_105 42 Try.f42) [p0, p1] = timetable_same_Route L p0 p1 := by kernel_rfl
theorem eq_7 (L : Lps) (p0 p1 : PV) : evalFn (S.env L tab_109 7 Try.f7) [p0, p1] = law22_TimetableEquals L p0 p1 := by kernel_rfl
theorem eq_62 (L : Lps) (p0 : PV) : evalFn (S.env L tab_113 62 Try.f62) [p0] = timetable_copied_Footpath L p0 := by kernel_rfl
theorem eq_55 (L : Lps) (p0 : PV) : evalFn (S.env L tab_117 55 Try.f55) [p0] = timetable_copied_Route L p0 := by kernel_rfl
theorem eq_19 (L : Lps) (p0 : PV) : evalFn (S.env L tab_121 19 Try.f19) [p0] = timetable_Clone L p0 := by kernel_rfl
end Go.Proofs.Ytlgcompmkliiaaa
