/- The plain Lean functions are what the evaluator makes of the program. Printed by a program of the author. -/
import Derived.Test.YtlgcompmkliiaaaTab
namespace Go.Proofs.Ytlgcompmkliiaaa
open Go.Ab
set_option maxRecDepth 1000000
theorem eq_21 (L : Lps) (p0 : PV) : evalFn (S.env L tab_1 otab_0 21 Try.f21) [p0] = stop_Check L p0 := by kernel_rfl
theorem eq_38 (L : Lps) (c0 c1 c2 c3 c4 c5 c6 c7 c8 c9 c10 c11 c12 : PV) : evalFn (S.env L tab_5 otab_0 38 Try.f38) [PV.rp [c0, c1, c2, c3, c4, c5, c6, c7, c8, c9, c10, c11, c12]] = timetable_Check_10 L c0 c1 c2 c3 c4 c5 c6 c7 c8 c9 c10 c11 c12 := by kernel_rfl
theorem eq_67 (L : Lps) (p0 : PV) : evalFn (S.env L tab_9 otab_0 67 Try.f67) [p0] = date_Valid L p0 := by kernel_rfl
theorem eq_26 (L : Lps) (c0 c1 c2 c3 c4 c5 c6 c7 c8 c9 c10 c11 c12 c13 : PV) : evalFn (S.env L tab_13 otab_0 26 Try.f26) [PV.rp [c0, c1, c2, c3, c4, c5, c6, c7, c8, c9, c10, c11, c12], PV.rp [c13]] = timetable_Check_4 L c0 c1 c2 c3 c4 c5 c6 c7 c8 c9 c10 c11 c12 c13 := by kernel_rfl
theorem eq_28 (L : Lps) (c0 c1 c2 c3 c4 c5 c6 c7 c8 c9 c10 c11 c12 c13 c14 c15 : PV) : evalFn (S.env L tab_17 otab_0 28 Try.f28) [PV.rp [c0, c1, c2, c3, c4, c5, c6, c7, c8, c9, c10, c11, c12], PV.rp [c13], PV.rp [c14], PV.rp [c15]] = timetable_Check_5 L c0 c1 c2 c3 c4 c5 c6 c7 c8 c9 c10 c11 c12 c13 c14 c15 := by kernel_rfl
theorem eq_113 (L : Lps) (p0 p1 p2 : PV) : evalFn (S.env L tab_21 otab_0 113 Try.f113) [p0, p1, p2] = frequency_moved L p0 p1 p2 := by kernel_rfl
theorem eq_69 (L : Lps) (p0 : PV) : evalFn (S.env L tab_25 otab_0 69 Try.f69) [p0] = frequency_sound L p0 := by kernel_rfl
theorem eq_114 (L : Lps) (p0 p1 : PV) : evalFn (S.env L tab_29 otab_0 114 Try.f114) [p0, p1] = through_Next L p0 p1 := by kernel_rfl
theorem eq_93 (L : Lps) (p0 c1 : PV) : evalFn (S.env L tab_33 otab_0 93 Try.f93) [p0, PV.rp [c1]] = through_pair_1 L p0 c1 := by kernel_rfl
theorem eq_96 (L : Lps) (p0 p1 : PV) : evalFn (S.env L tab_37 otab_0 96 Try.f96) [p0, p1] = through_alighting L p0 p1 := by kernel_rfl
theorem eq_34 (L : Lps) (c0 c1 c2 c3 c4 c5 c6 c7 c8 c9 c10 c11 c12 c13 : PV) : evalFn (S.env L tab_41 otab_0 34 Try.f34) [PV.rp [c0, c1, c2, c3, c4, c5, c6, c7, c8, c9, c10, c11, c12], PV.rp [c13]] = timetable_Check_8 L c0 c1 c2 c3 c4 c5 c6 c7 c8 c9 c10 c11 c12 c13 := by kernel_rfl
theorem eq_11 (L : Lps) (p0 : PV) : evalFn (S.env L tab_45 otab_0 11 Try.f11) [p0] = timetable_Check L p0 := by kernel_rfl
theorem eq_98 (L : Lps) (p0 : PV) : evalFn (S.env L tab_49 otab_0 98 Try.f98) [p0] = ref13_Identifier L p0 := by kernel_rfl
theorem eq_80 (L : Lps) (p0 : PV) : evalFn (S.env L tab_53 otab_0 80 Try.f80) [p0] = ref14_Check L p0 := by kernel_rfl
theorem eq_79 (L : Lps) (p0 : PV) : evalFn (S.env L tab_57 otab_0 79 Try.f79) [p0] = ref15_Check L p0 := by kernel_rfl
theorem eq_82 (L : Lps) (p0 p1 p2 p3 : PV) : evalFn (S.env L tab_61 otab_0 82 Try.f82) [p0, p1, p2, p3] = ref17_Check L p0 p1 p2 p3 := by kernel_rfl
theorem eq_118 (L : Lps) (p0 p1 : PV) : evalFn (S.env L tab_65 otab_0 118 Try.f118) [p0, p1] = ref18_Calls L p0 p1 := by kernel_rfl
theorem eq_121 (L : Lps) (p0 p1 : PV) : evalFn (S.env L tab_69 otab_0 121 Try.f121) [p0, p1] = ref19_Has L p0 p1 := by kernel_rfl
theorem eq_120 (L : Lps) (p0 p1 : PV) : evalFn (S.env L tab_73 otab_0 120 Try.f120) [p0, p1] = ref19_repeated L p0 p1 := by kernel_rfl
theorem eq_109 (L : Lps) (p0 p1 p2 p3 p4 : PV) : evalFn (S.env L tab_77 otab_0 109 Try.f109) [p0, p1, p2, p3, p4] = ref19_guarantee L p0 p1 p2 p3 p4 := by kernel_rfl
theorem eq_111 (L : Lps) (p0 p1 p2 : PV) : evalFn (S.env L tab_81 otab_0 111 Try.f111) [p0, p1, p2] = ref21_within L p0 p1 p2 := by kernel_rfl
theorem eq_12 (L : Lps) (p0 : PV) : evalFn (S.env L tab_85 otab_0 12 Try.f12) [p0] = ref22_Check L p0 := by kernel_rfl
theorem eq_4 (L : Lps) (p0 : PV) : evalFn (S.env L tab_89 otab_0 4 Try.f4) [p0] = law22_TimetableSizes L p0 := by kernel_rfl
theorem eq_6 (L : Lps) (p0 p1 : PV) : evalFn (S.env L tab_93 otab_0 6 Try.f6) [p0, p1] = law22_TimetableShrinks L p0 p1 := by kernel_rfl
theorem eq_18 (L : Lps) (p0 p1 : PV) : evalFn (S.env L tab_97 otab_0 18 Try.f18) [p0, p1] = ref22_Equal L p0 p1 := by kernel_rfl
theorem eq_45 (L : Lps) (p0 p1 : PV) : evalFn (S.env L tab_101 otab_0 45 Try.f45) [p0, p1] = timetable_sameTrips L p0 p1 := by kernel_rfl
theorem eq_46 (L : Lps) (p0 p1 : PV) : evalFn (S.env L tab_105 otab_0 46 Try.f46) [p0, p1] = timetable_same_Frequency L p0 p1 := by kernel_rfl
theorem eq_47 (L : Lps) (p0 p1 : PV) : evalFn (S.env L tab_109 otab_0 47 Try.f47) [p0, p1] = timetable_same_Through L p0 p1 := by kernel_rfl
theorem eq_63 (L : Lps) (p0 : PV) : evalFn (S.env L tab_113 otab_0 63 Try.f63) [p0] = timetable_copied_Call L p0 := by kernel_rfl
theorem eq_61 (L : Lps) (p0 : PV) : evalFn (S.env L tab_117 otab_0 61 Try.f61) [p0] = timetable_copied_Guarantee L p0 := by kernel_rfl
theorem eq_60 (L : Lps) (p0 : PV) : evalFn (S.env L tab_121 otab_0 60 Try.f60) [p0] = timetable_copied_Through L p0 := by kernel_rfl
end Go.Proofs.Ytlgcompmkliiaaa
