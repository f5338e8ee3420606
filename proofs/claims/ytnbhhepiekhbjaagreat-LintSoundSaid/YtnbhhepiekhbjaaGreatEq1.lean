/- The plain Lean functions are what the evaluator makes of the program. Printed by a program of the author. -/
import Derived.Test.YtnbhhepiekhbjaaGreatTab
namespace Go.Proofs.YtnbhhepiekhbjaaGreat
open Go.Ab
set_option maxRecDepth 1000000
theorem eq_28 (L : Lps) : evalFn (S.env L tab_0 otab_0 28 Tryz.f28) [] = law24_example L  := by kernel_rfl
theorem eq_23 (L : Lps) (p0 : PV) : evalFn (S.env L tab_4 otab_0 23 Tryz.f23) [p0] = lint_calendars L p0 := by kernel_rfl
theorem eq_105 (L : Lps) (p0 p1 p2 p3 : PV) : evalFn (S.env L tab_8 otab_0 105 Tryz.f105) [p0, p1, p2, p3] = calendar_Active L p0 p1 p2 p3 := by kernel_rfl
theorem eq_72 (L : Lps) (p0 c1 : PV) : evalFn (S.env L tab_12 otab_0 72 Tryz.f72) [p0, PV.rp [c1]] = lint_overtaking_1 L p0 c1 := by kernel_rfl
theorem eq_26 (L : Lps) (p0 : PV) : evalFn (S.env L tab_16 otab_0 26 Tryz.f26) [p0] = lint_unreachable L p0 := by kernel_rfl
theorem eq_103 (L : Lps) (p0 p1 p2 : PV) : evalFn (S.env L tab_20 otab_0 103 Tryz.f103) [p0, p1, p2] = product_within L p0 p1 p2 := by kernel_rfl
theorem eq_53 (L : Lps) (p0 : PV) : evalFn (S.env L tab_24 otab_0 53 Tryz.f53) [p0] = route_Check L p0 := by kernel_rfl
theorem eq_57 (L : Lps) (p0 p1 : PV) : evalFn (S.env L tab_28 otab_0 57 Tryz.f57) [p0, p1] = calendar_CheckExceptions L p0 p1 := by kernel_rfl
theorem eq_59 (L : Lps) (p0 p1 p2 p3 : PV) : evalFn (S.env L tab_32 otab_0 59 Tryz.f59) [p0, p1, p2, p3] = trip_Check L p0 p1 p2 p3 := by kernel_rfl
theorem eq_135 (L : Lps) (p0 p1 p2 : PV) : evalFn (S.env L tab_36 otab_0 135 Tryz.f135) [p0, p1, p2] = frequency_wide L p0 p1 p2 := by kernel_rfl
theorem eq_96 (L : Lps) (p0 p1 : PV) : evalFn (S.env L tab_40 otab_0 96 Tryz.f96) [p0, p1] = frequency_fits L p0 p1 := by kernel_rfl
theorem eq_99 (L : Lps) (p0 p1 : PV) : evalFn (S.env L tab_44 otab_0 99 Tryz.f99) [p0, p1] = through_follows L p0 p1 := by kernel_rfl
theorem eq_123 (L : Lps) (p0 p1 : PV) : evalFn (S.env L tab_48 otab_0 123 Tryz.f123) [p0, p1] = frequency_Repeated L p0 p1 := by kernel_rfl
theorem eq_62 (L : Lps) (c0 c1 c2 c3 c4 c5 c6 c7 c8 c9 c10 c11 c12 : PV) : evalFn (S.env L tab_52 otab_0 62 Tryz.f62) [PV.rp [c0, c1, c2, c3, c4, c5, c6, c7, c8, c9, c10, c11, c12]] = timetable_Check_7 L c0 c1 c2 c3 c4 c5 c6 c7 c8 c9 c10 c11 c12 := by kernel_rfl
theorem eq_65 (L : Lps) (p0 p1 p2 p3 : PV) : evalFn (S.env L tab_56 otab_0 65 Tryz.f65) [p0, p1, p2, p3] = through_CheckGuarantees L p0 p1 p2 p3 := by kernel_rfl
theorem eq_66 (L : Lps) (c0 c1 c2 c3 c4 c5 c6 c7 c8 c9 c10 c11 c12 c13 : PV) : evalFn (S.env L tab_60 otab_0 66 Tryz.f66) [PV.rp [c0, c1, c2, c3, c4, c5, c6, c7, c8, c9, c10, c11, c12], PV.rp [c13]] = timetable_Check_9 L c0 c1 c2 c3 c4 c5 c6 c7 c8 c9 c10 c11 c12 c13 := by kernel_rfl
theorem eq_10 (L : Lps) (p0 : PV) : evalFn (S.env L tab_64 otab_0 10 Tryz.f10) [p0] = lint_Warnings L p0 := by kernel_rfl
theorem eq_49 (L : Lps) (p0 : PV) : evalFn (S.env L tab_68 otab_0 49 Tryz.f49) [p0] = ref18_count L p0 := by kernel_rfl
theorem eq_130 (L : Lps) (p0 : PV) : evalFn (S.env L tab_72 otab_0 130 Tryz.f130) [p0] = ref02_Weekday L p0 := by kernel_rfl
theorem eq_41 (L : Lps) (p0 p1 : PV) : evalFn (S.env L tab_76 otab_0 41 Tryz.f41) [p0, p1] = ref24_calendarUsed L p0 p1 := by kernel_rfl
theorem eq_47 (L : Lps) (p0 p1 : PV) : evalFn (S.env L tab_80 otab_0 47 Tryz.f47) [p0, p1] = ref18_Repeated L p0 p1 := by kernel_rfl
theorem eq_44 (L : Lps) (p0 p1 : PV) : evalFn (S.env L tab_84 otab_0 44 Tryz.f44) [p0, p1] = ref24_reached L p0 p1 := by kernel_rfl
theorem eq_76 (L : Lps) (p0 p1 : PV) : evalFn (S.env L tab_88 otab_0 76 Tryz.f76) [p0, p1] = ref13_Find L p0 p1 := by kernel_rfl
theorem eq_31 (L : Lps) (p0 : PV) : evalFn (S.env L tab_92 otab_0 31 Tryz.f31) [p0] = ref14_Check L p0 := by kernel_rfl
theorem eq_30 (L : Lps) (p0 : PV) : evalFn (S.env L tab_96 otab_0 30 Tryz.f30) [p0] = ref15_Check L p0 := by kernel_rfl
theorem eq_33 (L : Lps) (p0 p1 p2 p3 : PV) : evalFn (S.env L tab_100 otab_0 33 Tryz.f33) [p0, p1, p2, p3] = ref17_Check L p0 p1 p2 p3 := by kernel_rfl
theorem eq_82 (L : Lps) (p0 p1 : PV) : evalFn (S.env L tab_104 otab_0 82 Tryz.f82) [p0, p1] = ref18_fits L p0 p1 := by kernel_rfl
theorem eq_114 (L : Lps) (p0 p1 : PV) : evalFn (S.env L tab_108 otab_0 114 Tryz.f114) [p0, p1] = ref19_Chain L p0 p1 := by kernel_rfl
theorem eq_35 (L : Lps) (p0 p1 p2 : PV) : evalFn (S.env L tab_112 otab_0 35 Tryz.f35) [p0, p1, p2] = ref19_Check L p0 p1 p2 := by kernel_rfl
theorem eq_85 (L : Lps) (p0 p1 : PV) : evalFn (S.env L tab_116 otab_0 85 Tryz.f85) [p0, p1] = ref20_valid L p0 p1 := by kernel_rfl
theorem eq_38 (L : Lps) (p0 : PV) : evalFn (S.env L tab_120 otab_0 38 Tryz.f38) [p0] = ref21_Check L p0 := by kernel_rfl
end Go.Proofs.YtnbhhepiekhbjaaGreat
