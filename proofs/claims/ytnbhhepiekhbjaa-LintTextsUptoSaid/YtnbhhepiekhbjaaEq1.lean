/- The plain Lean functions are what the evaluator makes of the program. Printed by a program of the author. -/
import Derived.Test.YtnbhhepiekhbjaaTab
namespace Go.Proofs.Ytnbhhepiekhbjaa
open Go.Ab
set_option maxRecDepth 1000000
theorem eq_10 (L : Lps) : evalFn (S.env L tab_0 otab_0 10 Try.f10) [] = law24_example L  := by kernel_rfl
theorem eq_20 (L : Lps) (p0 : PV) : evalFn (S.env L tab_4 otab_0 20 Try.f20) [p0] = lint_calendars L p0 := by kernel_rfl
theorem eq_64 (L : Lps) (p0 p1 p2 p3 : PV) : evalFn (S.env L tab_8 otab_0 64 Try.f64) [p0, p1, p2, p3] = calendar_Active L p0 p1 p2 p3 := by kernel_rfl
theorem eq_47 (L : Lps) (p0 c1 : PV) : evalFn (S.env L tab_12 otab_0 47 Try.f47) [p0, PV.rp [c1]] = lint_overtaking_1 L p0 c1 := by kernel_rfl
theorem eq_23 (L : Lps) (p0 : PV) : evalFn (S.env L tab_16 otab_0 23 Try.f23) [p0] = lint_unreachable L p0 := by kernel_rfl
theorem eq_62 (L : Lps) (p0 p1 p2 : PV) : evalFn (S.env L tab_20 otab_0 62 Try.f62) [p0, p1, p2] = product_within L p0 p1 p2 := by kernel_rfl
theorem eq_28 (L : Lps) (p0 : PV) : evalFn (S.env L tab_24 otab_0 28 Try.f28) [p0] = route_Check L p0 := by kernel_rfl
theorem eq_32 (L : Lps) (p0 p1 : PV) : evalFn (S.env L tab_28 otab_0 32 Try.f32) [p0, p1] = calendar_CheckExceptions L p0 p1 := by kernel_rfl
theorem eq_34 (L : Lps) (p0 p1 p2 p3 : PV) : evalFn (S.env L tab_32 otab_0 34 Try.f34) [p0, p1, p2, p3] = trip_Check L p0 p1 p2 p3 := by kernel_rfl
theorem eq_79 (L : Lps) (p0 p1 p2 : PV) : evalFn (S.env L tab_36 otab_0 79 Try.f79) [p0, p1, p2] = frequency_wide L p0 p1 p2 := by kernel_rfl
theorem eq_55 (L : Lps) (p0 p1 : PV) : evalFn (S.env L tab_40 otab_0 55 Try.f55) [p0, p1] = frequency_fits L p0 p1 := by kernel_rfl
theorem eq_58 (L : Lps) (p0 p1 : PV) : evalFn (S.env L tab_44 otab_0 58 Try.f58) [p0, p1] = through_follows L p0 p1 := by kernel_rfl
theorem eq_70 (L : Lps) (p0 p1 : PV) : evalFn (S.env L tab_48 otab_0 70 Try.f70) [p0, p1] = frequency_Repeated L p0 p1 := by kernel_rfl
theorem eq_37 (L : Lps) (c0 c1 c2 c3 c4 c5 c6 c7 c8 c9 c10 c11 c12 : PV) : evalFn (S.env L tab_52 otab_0 37 Try.f37) [PV.rp [c0, c1, c2, c3, c4, c5, c6, c7, c8, c9, c10, c11, c12]] = timetable_Check_7 L c0 c1 c2 c3 c4 c5 c6 c7 c8 c9 c10 c11 c12 := by kernel_rfl
theorem eq_40 (L : Lps) (p0 p1 p2 p3 : PV) : evalFn (S.env L tab_56 otab_0 40 Try.f40) [p0, p1, p2, p3] = through_CheckGuarantees L p0 p1 p2 p3 := by kernel_rfl
theorem eq_41 (L : Lps) (c0 c1 c2 c3 c4 c5 c6 c7 c8 c9 c10 c11 c12 c13 : PV) : evalFn (S.env L tab_60 otab_0 41 Try.f41) [PV.rp [c0, c1, c2, c3, c4, c5, c6, c7, c8, c9, c10, c11, c12], PV.rp [c13]] = timetable_Check_9 L c0 c1 c2 c3 c4 c5 c6 c7 c8 c9 c10 c11 c12 c13 := by kernel_rfl
theorem eq_11 (L : Lps) (p0 : PV) : evalFn (S.env L tab_64 otab_0 11 Try.f11) [p0] = lint_Warnings L p0 := by kernel_rfl
theorem eq_15 (L : Lps) (p0 : PV) : evalFn (S.env L tab_68 otab_0 15 Try.f15) [p0] = ref18_count L p0 := by kernel_rfl
theorem eq_3 (L : Lps) (p0 p1 : PV) : evalFn (S.env L tab_72 otab_0 3 Try.f3) [p0, p1] = law24_LintTexts L p0 p1 := by kernel_rfl
end Go.Proofs.Ytnbhhepiekhbjaa
