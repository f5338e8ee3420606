/- The plain Lean functions are what the evaluator makes of the program. Printed by a program of the author. -/
import Derived.Test.YtnbhhepiekhbjaaGreatTab
namespace Go.Proofs.YtnbhhepiekhbjaaGreat
open Go.Ab
set_option maxRecDepth 1000000
theorem eq_9 (L : Lps) (p0 : PV) : evalFn (S.env L tab_1 otab_0 9 Tryz.f9) [p0] = law24_to L p0 := by kernel_rfl
theorem eq_93 (L : Lps) (p0 : PV) : evalFn (S.env L tab_5 otab_0 93 Tryz.f93) [p0] = date_Valid L p0 := by kernel_rfl
theorem eq_71 (L : Lps) (p0 p1 p2 p3 : PV) : evalFn (S.env L tab_9 otab_0 71 Tryz.f71) [p0, p1, p2, p3] = calendar_Next L p0 p1 p2 p3 := by kernel_rfl
theorem eq_22 (L : Lps) (p0 : PV) : evalFn (S.env L tab_13 otab_0 22 Tryz.f22) [p0] = lint_routes L p0 := by kernel_rfl
theorem eq_91 (L : Lps) (p0 : PV) : evalFn (S.env L tab_17 otab_0 91 Tryz.f91) [p0] = ident_Valid L p0 := by kernel_rfl
theorem eq_69 (L : Lps) (p0 : PV) : evalFn (S.env L tab_21 otab_0 69 Tryz.f69) [p0] = product_Check L p0 := by kernel_rfl
theorem eq_52 (L : Lps) (c0 c1 c2 c3 c4 c5 c6 c7 c8 c9 c10 c11 c12 : PV) : evalFn (S.env L tab_25 otab_0 52 Tryz.f52) [PV.rp [c0, c1, c2, c3, c4, c5, c6, c7, c8, c9, c10, c11, c12]] = timetable_Check_2 L c0 c1 c2 c3 c4 c5 c6 c7 c8 c9 c10 c11 c12 := by kernel_rfl
theorem eq_56 (L : Lps) (c0 c1 c2 c3 c4 c5 c6 c7 c8 c9 c10 c11 c12 c13 : PV) : evalFn (S.env L tab_29 otab_0 56 Tryz.f56) [PV.rp [c0, c1, c2, c3, c4, c5, c6, c7, c8, c9, c10, c11, c12], PV.rp [c13]] = timetable_Check_4 L c0 c1 c2 c3 c4 c5 c6 c7 c8 c9 c10 c11 c12 c13 := by kernel_rfl
theorem eq_58 (L : Lps) (c0 c1 c2 c3 c4 c5 c6 c7 c8 c9 c10 c11 c12 c13 c14 c15 : PV) : evalFn (S.env L tab_33 otab_0 58 Tryz.f58) [PV.rp [c0, c1, c2, c3, c4, c5, c6, c7, c8, c9, c10, c11, c12], PV.rp [c13], PV.rp [c14], PV.rp [c15]] = timetable_Check_5 L c0 c1 c2 c3 c4 c5 c6 c7 c8 c9 c10 c11 c12 c13 c14 c15 := by kernel_rfl
theorem eq_131 (L : Lps) (p0 p1 p2 : PV) : evalFn (S.env L tab_37 otab_0 131 Tryz.f131) [p0, p1, p2] = frequency_moved L p0 p1 p2 := by kernel_rfl
theorem eq_95 (L : Lps) (p0 : PV) : evalFn (S.env L tab_41 otab_0 95 Tryz.f95) [p0] = frequency_sound L p0 := by kernel_rfl
theorem eq_132 (L : Lps) (p0 p1 : PV) : evalFn (S.env L tab_45 otab_0 132 Tryz.f132) [p0, p1] = through_Next L p0 p1 := by kernel_rfl
theorem eq_122 (L : Lps) (p0 c1 : PV) : evalFn (S.env L tab_49 otab_0 122 Tryz.f122) [p0, PV.rp [c1]] = through_pair_1 L p0 c1 := by kernel_rfl
theorem eq_125 (L : Lps) (p0 p1 : PV) : evalFn (S.env L tab_53 otab_0 125 Tryz.f125) [p0, p1] = through_alighting L p0 p1 := by kernel_rfl
theorem eq_64 (L : Lps) (c0 c1 c2 c3 c4 c5 c6 c7 c8 c9 c10 c11 c12 c13 : PV) : evalFn (S.env L tab_57 otab_0 64 Tryz.f64) [PV.rp [c0, c1, c2, c3, c4, c5, c6, c7, c8, c9, c10, c11, c12], PV.rp [c13]] = timetable_Check_8 L c0 c1 c2 c3 c4 c5 c6 c7 c8 c9 c10 c11 c12 c13 := by kernel_rfl
theorem eq_19 (L : Lps) (p0 : PV) : evalFn (S.env L tab_61 otab_0 19 Tryz.f19) [p0] = timetable_Check L p0 := by kernel_rfl
theorem eq_8 (L : Lps) (p0 p1 : PV) : evalFn (S.env L tab_65 otab_0 8 Tryz.f8) [p0, p1] = ref24_Same L p0 p1 := by kernel_rfl
theorem eq_18 (L : Lps) (p0 p1 : PV) : evalFn (S.env L tab_69 otab_0 18 Tryz.f18) [p0, p1] = ref18_Many L p0 p1 := by kernel_rfl
theorem eq_116 (L : Lps) (p0 p1 p2 p3 : PV) : evalFn (S.env L tab_73 otab_0 116 Tryz.f116) [p0, p1, p2, p3] = ref14_Reason L p0 p1 p2 p3 := by kernel_rfl
theorem eq_117 (L : Lps) (p0 p1 : PV) : evalFn (S.env L tab_77 otab_0 117 Tryz.f117) [p0, p1] = ref17_SamePattern L p0 p1 := by kernel_rfl
theorem eq_43 (L : Lps) (p0 p1 p2 : PV) : evalFn (S.env L tab_81 otab_0 43 Tryz.f43) [p0, p1, p2] = ref24_overtakes L p0 p1 p2 := by kernel_rfl
theorem eq_40 (L : Lps) (p0 p1 : PV) : evalFn (S.env L tab_85 otab_0 40 Tryz.f40) [p0, p1] = ref24_routeUsed L p0 p1 := by kernel_rfl
theorem eq_75 (L : Lps) (p0 : PV) : evalFn (S.env L tab_89 otab_0 75 Tryz.f75) [p0] = ref13_Identifier L p0 := by kernel_rfl
theorem eq_32 (L : Lps) (p0 p1 : PV) : evalFn (S.env L tab_93 otab_0 32 Tryz.f32) [p0, p1] = ref14_CheckExceptions L p0 p1 := by kernel_rfl
theorem eq_107 (L : Lps) (p0 p1 : PV) : evalFn (S.env L tab_97 otab_0 107 Tryz.f107) [p0, p1] = ref17_Find L p0 p1 := by kernel_rfl
theorem eq_128 (L : Lps) (p0 p1 p2 : PV) : evalFn (S.env L tab_101 otab_0 128 Tryz.f128) [p0, p1, p2] = ref18_Shift L p0 p1 p2 := by kernel_rfl
theorem eq_34 (L : Lps) (p0 p1 : PV) : evalFn (S.env L tab_105 otab_0 34 Tryz.f34) [p0, p1] = ref18_Check L p0 p1 := by kernel_rfl
theorem eq_111 (L : Lps) (p0 p1 : PV) : evalFn (S.env L tab_109 otab_0 111 Tryz.f111) [p0, p1] = ref19_in L p0 p1 := by kernel_rfl
theorem eq_115 (L : Lps) (p0 p1 p2 : PV) : evalFn (S.env L tab_113 otab_0 115 Tryz.f115) [p0, p1, p2] = ref19_Meets L p0 p1 p2 := by kernel_rfl
theorem eq_37 (L : Lps) (p0 p1 : PV) : evalFn (S.env L tab_117 otab_0 37 Tryz.f37) [p0, p1] = ref20_Check L p0 p1 := by kernel_rfl
theorem eq_13 (L : Lps) (p0 : PV) : evalFn (S.env L tab_121 otab_0 13 Tryz.f13) [p0] = ref24_Valid L p0 := by kernel_rfl
end Go.Proofs.YtnbhhepiekhbjaaGreat
