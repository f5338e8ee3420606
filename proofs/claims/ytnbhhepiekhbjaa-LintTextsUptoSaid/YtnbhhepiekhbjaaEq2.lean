/- The plain Lean functions are what the evaluator makes of the program. Printed by a program of the author. -/
import Derived.Test.YtnbhhepiekhbjaaTab
namespace Go.Proofs.Ytnbhhepiekhbjaa
open Go.Ab
set_option maxRecDepth 1000000
theorem eq_13 (L : Lps) (p0 : PV) : evalFn (S.env L tab_1 otab_0 13 Try.f13) [p0] = law24_to L p0 := by kernel_rfl
theorem eq_52 (L : Lps) (p0 : PV) : evalFn (S.env L tab_5 otab_0 52 Try.f52) [p0] = date_Valid L p0 := by kernel_rfl
theorem eq_46 (L : Lps) (p0 p1 p2 p3 : PV) : evalFn (S.env L tab_9 otab_0 46 Try.f46) [p0, p1, p2, p3] = calendar_Next L p0 p1 p2 p3 := by kernel_rfl
theorem eq_19 (L : Lps) (p0 : PV) : evalFn (S.env L tab_13 otab_0 19 Try.f19) [p0] = lint_routes L p0 := by kernel_rfl
theorem eq_50 (L : Lps) (p0 : PV) : evalFn (S.env L tab_17 otab_0 50 Try.f50) [p0] = ident_Valid L p0 := by kernel_rfl
theorem eq_44 (L : Lps) (p0 : PV) : evalFn (S.env L tab_21 otab_0 44 Try.f44) [p0] = product_Check L p0 := by kernel_rfl
theorem eq_27 (L : Lps) (c0 c1 c2 c3 c4 c5 c6 c7 c8 c9 c10 c11 c12 : PV) : evalFn (S.env L tab_25 otab_0 27 Try.f27) [PV.rp [c0, c1, c2, c3, c4, c5, c6, c7, c8, c9, c10, c11, c12]] = timetable_Check_2 L c0 c1 c2 c3 c4 c5 c6 c7 c8 c9 c10 c11 c12 := by kernel_rfl
theorem eq_31 (L : Lps) (c0 c1 c2 c3 c4 c5 c6 c7 c8 c9 c10 c11 c12 c13 : PV) : evalFn (S.env L tab_29 otab_0 31 Try.f31) [PV.rp [c0, c1, c2, c3, c4, c5, c6, c7, c8, c9, c10, c11, c12], PV.rp [c13]] = timetable_Check_4 L c0 c1 c2 c3 c4 c5 c6 c7 c8 c9 c10 c11 c12 c13 := by kernel_rfl
theorem eq_33 (L : Lps) (c0 c1 c2 c3 c4 c5 c6 c7 c8 c9 c10 c11 c12 c13 c14 c15 : PV) : evalFn (S.env L tab_33 otab_0 33 Try.f33) [PV.rp [c0, c1, c2, c3, c4, c5, c6, c7, c8, c9, c10, c11, c12], PV.rp [c13], PV.rp [c14], PV.rp [c15]] = timetable_Check_5 L c0 c1 c2 c3 c4 c5 c6 c7 c8 c9 c10 c11 c12 c13 c14 c15 := by kernel_rfl
theorem eq_75 (L : Lps) (p0 p1 p2 : PV) : evalFn (S.env L tab_37 otab_0 75 Try.f75) [p0, p1, p2] = frequency_moved L p0 p1 p2 := by kernel_rfl
theorem eq_54 (L : Lps) (p0 : PV) : evalFn (S.env L tab_41 otab_0 54 Try.f54) [p0] = frequency_sound L p0 := by kernel_rfl
theorem eq_76 (L : Lps) (p0 p1 : PV) : evalFn (S.env L tab_45 otab_0 76 Try.f76) [p0, p1] = through_Next L p0 p1 := by kernel_rfl
theorem eq_69 (L : Lps) (p0 c1 : PV) : evalFn (S.env L tab_49 otab_0 69 Try.f69) [p0, PV.rp [c1]] = through_pair_1 L p0 c1 := by kernel_rfl
theorem eq_72 (L : Lps) (p0 p1 : PV) : evalFn (S.env L tab_53 otab_0 72 Try.f72) [p0, p1] = through_alighting L p0 p1 := by kernel_rfl
theorem eq_39 (L : Lps) (c0 c1 c2 c3 c4 c5 c6 c7 c8 c9 c10 c11 c12 c13 : PV) : evalFn (S.env L tab_57 otab_0 39 Try.f39) [PV.rp [c0, c1, c2, c3, c4, c5, c6, c7, c8, c9, c10, c11, c12], PV.rp [c13]] = timetable_Check_8 L c0 c1 c2 c3 c4 c5 c6 c7 c8 c9 c10 c11 c12 c13 := by kernel_rfl
theorem eq_16 (L : Lps) (p0 : PV) : evalFn (S.env L tab_61 otab_0 16 Try.f16) [p0] = timetable_Check L p0 := by kernel_rfl
theorem eq_12 (L : Lps) (p0 p1 : PV) : evalFn (S.env L tab_65 otab_0 12 Try.f12) [p0, p1] = ref24_Same L p0 p1 := by kernel_rfl
theorem eq_8 (L : Lps) (p0 p1 : PV) : evalFn (S.env L tab_69 otab_0 8 Try.f8) [p0, p1] = ref18_Many L p0 p1 := by kernel_rfl
end Go.Proofs.Ytnbhhepiekhbjaa
