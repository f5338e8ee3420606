/- The plain Lean functions are what the evaluator makes of the program. Printed by a program of the author. -/
import Derived.Test.YtlgcompmkliiaaaTab
namespace Go.Proofs.Ytlgcompmkliiaaa
open Go.Ab
set_option maxRecDepth 1000000
theorem eq_77 (L : Lps) (p0 p1 p2 : PV) : evalFn (S.env L tab_3 77 Try.f77) [p0, p1, p2] = product_within L p0 p1 p2 := by kernel_rfl
theorem eq_23 (L : Lps) (p0 : PV) : evalFn (S.env L tab_7 23 Try.f23) [p0] = route_Check L p0 := by kernel_rfl
theorem eq_24 (L : Lps) (c0 c1 c2 c3 c4 c5 c6 c7 c8 c9 c10 c11 c12 : PV) : evalFn (S.env L tab_11 24 Try.f24) [PV.rp [c0, c1, c2, c3, c4, c5, c6, c7, c8, c9, c10, c11, c12]] = timetable_Check_3 L c0 c1 c2 c3 c4 c5 c6 c7 c8 c9 c10 c11 c12 := by kernel_rfl
theorem eq_68 (L : Lps) (p0 p1 p2 p3 : PV) : evalFn (S.env L tab_15 68 Try.f68) [p0, p1, p2, p3] = call_Check L p0 p1 p2 p3 := by kernel_rfl
theorem eq_124 (L : Lps) (p0 : PV) : evalFn (S.env L tab_19 124 Try.f124) [p0] = frequency_moved_1 L p0 := by kernel_rfl
theorem eq_70 (L : Lps) (p0 p1 : PV) : evalFn (S.env L tab_23 70 Try.f70) [p0, p1] = frequency_fits L p0 p1 := by kernel_rfl
theorem eq_73 (L : Lps) (p0 p1 : PV) : evalFn (S.env L tab_27 73 Try.f73) [p0, p1] = through_follows L p0 p1 := by kernel_rfl
theorem eq_93 (L : Lps) (p0 c1 : PV) : evalFn (S.env L tab_31 93 Try.f93) [p0, PV.rp [c1]] = through_pair_1 L p0 c1 := by kernel_rfl
theorem eq_96 (L : Lps) (p0 p1 : PV) : evalFn (S.env L tab_35 96 Try.f96) [p0, p1] = through_alighting L p0 p1 := by kernel_rfl
theorem eq_34 (L : Lps) (c0 c1 c2 c3 c4 c5 c6 c7 c8 c9 c10 c11 c12 c13 : PV) : evalFn (S.env L tab_39 34 Try.f34) [PV.rp [c0, c1, c2, c3, c4, c5, c6, c7, c8, c9, c10, c11, c12], PV.rp [c13]] = timetable_Check_8 L c0 c1 c2 c3 c4 c5 c6 c7 c8 c9 c10 c11 c12 c13 := by kernel_rfl
theorem eq_11 (L : Lps) (p0 : PV) : evalFn (S.env L tab_43 11 Try.f11) [p0] = timetable_Check L p0 := by kernel_rfl
theorem eq_98 (L : Lps) (p0 : PV) : evalFn (S.env L tab_47 98 Try.f98) [p0] = ref13_Identifier L p0 := by kernel_rfl
theorem eq_80 (L : Lps) (p0 : PV) : evalFn (S.env L tab_51 80 Try.f80) [p0] = ref14_Check L p0 := by kernel_rfl
theorem eq_79 (L : Lps) (p0 : PV) : evalFn (S.env L tab_55 79 Try.f79) [p0] = ref15_Check L p0 := by kernel_rfl
theorem eq_82 (L : Lps) (p0 p1 p2 p3 : PV) : evalFn (S.env L tab_59 82 Try.f82) [p0, p1, p2, p3] = ref17_Check L p0 p1 p2 p3 := by kernel_rfl
theorem eq_118 (L : Lps) (p0 p1 : PV) : evalFn (S.env L tab_63 118 Try.f118) [p0, p1] = ref18_Calls L p0 p1 := by kernel_rfl
theorem eq_121 (L : Lps) (p0 p1 : PV) : evalFn (S.env L tab_67 121 Try.f121) [p0, p1] = ref19_Has L p0 p1 := by kernel_rfl
theorem eq_120 (L : Lps) (p0 p1 : PV) : evalFn (S.env L tab_71 120 Try.f120) [p0, p1] = ref19_repeated L p0 p1 := by kernel_rfl
theorem eq_109 (L : Lps) (p0 p1 p2 p3 p4 : PV) : evalFn (S.env L tab_75 109 Try.f109) [p0, p1, p2, p3, p4] = ref19_guarantee L p0 p1 p2 p3 p4 := by kernel_rfl
theorem eq_111 (L : Lps) (p0 p1 p2 : PV) : evalFn (S.env L tab_79 111 Try.f111) [p0, p1, p2] = ref21_within L p0 p1 p2 := by kernel_rfl
theorem eq_12 (L : Lps) (p0 : PV) : evalFn (S.env L tab_83 12 Try.f12) [p0] = ref22_Check L p0 := by kernel_rfl
theorem eq_4 (L : Lps) (p0 : PV) : evalFn (S.env L tab_87 4 Try.f4) [p0] = law22_TimetableSizes L p0 := by kernel_rfl
theorem eq_6 (L : Lps) (p0 p1 : PV) : evalFn (S.env L tab_91 6 Try.f6) [p0, p1] = law22_TimetableShrinks L p0 p1 := by kernel_rfl
theorem eq_18 (L : Lps) (p0 p1 : PV) : evalFn (S.env L tab_95 18 Try.f18) [p0, p1] = ref22_Equal L p0 p1 := by kernel_rfl
theorem eq_45 (L : Lps) (p0 p1 : PV) : evalFn (S.env L tab_99 45 Try.f45) [p0, p1] = timetable_sameTrips L p0 p1 := by kernel_rfl
theorem eq_46 (L : Lps) (p0 p1 : PV) : evalFn (S.env L tab_103 46 Try.f46) [p0, p1] = timetable_same_Frequency L p0 p1 := by kernel_rfl
theorem eq_47 (L : Lps) (p0 p1 : PV) : evalFn (S.env L tab_107 47 Try.f47) [p0, p1] = timetable_same_Through L p0 p1 := by kernel_rfl
theorem eq_63 (L : Lps) (p0 : PV) : evalFn (S.env L tab_111 63 Try.f63) [p0] = timetable_copied_Call L p0 := by kernel_rfl
theorem eq_61 (L : Lps) (p0 : PV) : evalFn (S.env L tab_115 61 Try.f61) [p0] = timetable_copied_Guarantee L p0 := by kernel_rfl
theorem eq_60 (L : Lps) (p0 : PV) : evalFn (S.env L tab_119 60 Try.f60) [p0] = timetable_copied_Through L p0 := by kernel_rfl
theorem eq_125 (L : Lps) (p0 p1 p2 : PV) : evalFn (S.env L tab_123 125 Try.f125) [p0, p1, p2] = frequency_wide L p0 p1 p2 := by kernel_rfl
end Go.Proofs.Ytlgcompmkliiaaa
