/- The plain Lean functions are what the evaluator makes of the program. Printed by a program of the author. -/
import Derived.Test.YtnbhhepiekhbjaaTab
namespace Go.Proofs.Ytnbhhepiekhbjaa
open Go.Ab
set_option maxRecDepth 1000000
theorem eq_9 (L : Lps) (p0 p1 : PV) : evalFn (S.env L tab_2 otab_0 9 Try.f9) [p0, p1] = lint_Text_1 L p0 p1 := by kernel_rfl
theorem eq_77 (L : Lps) (p0 : PV) : evalFn (S.env L tab_6 otab_0 77 Try.f77) [p0] = date_Weekday L p0 := by kernel_rfl
theorem eq_21 (L : Lps) (p0 : PV) : evalFn (S.env L tab_10 otab_0 21 Try.f21) [p0] = lint_idle L p0 := by kernel_rfl
theorem eq_18 (L : Lps) (p0 : PV) : evalFn (S.env L tab_14 otab_0 18 Try.f18) [p0] = lint_stops L p0 := by kernel_rfl
theorem eq_26 (L : Lps) (p0 : PV) : evalFn (S.env L tab_18 otab_0 26 Try.f26) [p0] = stop_Check L p0 := by kernel_rfl
theorem eq_43 (L : Lps) (c0 c1 c2 c3 c4 c5 c6 c7 c8 c9 c10 c11 c12 : PV) : evalFn (S.env L tab_22 otab_0 43 Try.f43) [PV.rp [c0, c1, c2, c3, c4, c5, c6, c7, c8, c9, c10, c11, c12]] = timetable_Check_10 L c0 c1 c2 c3 c4 c5 c6 c7 c8 c9 c10 c11 c12 := by kernel_rfl
theorem eq_30 (L : Lps) (p0 : PV) : evalFn (S.env L tab_26 otab_0 30 Try.f30) [p0] = calendar_Check L p0 := by kernel_rfl
theorem eq_66 (L : Lps) (p0 p1 p2 p3 p4 : PV) : evalFn (S.env L tab_30 otab_0 66 Try.f66) [p0, p1, p2, p3, p4] = call_one L p0 p1 p2 p3 p4 := by kernel_rfl
theorem eq_56 (L : Lps) (p0 : PV) : evalFn (S.env L tab_34 otab_0 56 Try.f56) [p0] = frequency_count L p0 := by kernel_rfl
theorem eq_67 (L : Lps) (p0 p1 : PV) : evalFn (S.env L tab_38 otab_0 67 Try.f67) [p0, p1] = frequency_Calls L p0 p1 := by kernel_rfl
theorem eq_36 (L : Lps) (p0 p1 : PV) : evalFn (S.env L tab_42 otab_0 36 Try.f36) [p0, p1] = frequency_Check L p0 p1 := by kernel_rfl
theorem eq_71 (L : Lps) (p0 p1 : PV) : evalFn (S.env L tab_46 otab_0 71 Try.f71) [p0, p1] = through_Chain L p0 p1 := by kernel_rfl
theorem eq_57 (L : Lps) (p0 p1 p2 p3 : PV) : evalFn (S.env L tab_50 otab_0 57 Try.f57) [p0, p1, p2, p3] = through_pair L p0 p1 p2 p3 := by kernel_rfl
theorem eq_73 (L : Lps) (p0 p1 : PV) : evalFn (S.env L tab_54 otab_0 73 Try.f73) [p0, p1] = through_boarding L p0 p1 := by kernel_rfl
theorem eq_61 (L : Lps) (p0 p1 : PV) : evalFn (S.env L tab_58 otab_0 61 Try.f61) [p0, p1] = footpath_sound L p0 p1 := by kernel_rfl
theorem eq_65 (L : Lps) (p0 p1 : PV) : evalFn (S.env L tab_62 otab_0 65 Try.f65) [p0, p1] = trip_SamePattern L p0 p1 := by kernel_rfl
theorem eq_7 (L : Lps) : evalFn (S.env L tab_66 otab_0 7 Try.f7) [] = law24_exampleHolds L  := by kernel_rfl
theorem eq_4 (L : Lps) (p0 : PV) : evalFn (S.env L tab_70 otab_0 4 Try.f4) [p0] = ref24_Large L p0 := by kernel_rfl
end Go.Proofs.Ytnbhhepiekhbjaa
