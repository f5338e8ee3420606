/- The plain Lean functions are what the evaluator makes of the program. Printed by a program of the author. -/
import Derived.Test.YtnbhhepiekhbjaaTab
namespace Go.Proofs.Ytnbhhepiekhbjaa
open Go.Ab
set_option maxRecDepth 1000000
theorem eq_5 (L : Lps) (p0 p1 : PV) : evalFn (S.env L tab_3 otab_0 5 Try.f5) [p0, p1] = lint_Text L p0 p1 := by kernel_rfl
theorem eq_74 (L : Lps) (p0 p1 p2 p3 : PV) : evalFn (S.env L tab_7 otab_0 74 Try.f74) [p0, p1, p2, p3] = calendar_Reason L p0 p1 p2 p3 := by kernel_rfl
theorem eq_22 (L : Lps) (p0 : PV) : evalFn (S.env L tab_11 otab_0 22 Try.f22) [p0] = lint_overtaking L p0 := by kernel_rfl
theorem eq_24 (L : Lps) (p0 : PV) : evalFn (S.env L tab_15 otab_0 24 Try.f24) [p0] = lint_unpaid L p0 := by kernel_rfl
theorem eq_25 (L : Lps) (c0 c1 c2 c3 c4 c5 c6 c7 c8 c9 c10 c11 c12 : PV) : evalFn (S.env L tab_19 otab_0 25 Try.f25) [PV.rp [c0, c1, c2, c3, c4, c5, c6, c7, c8, c9, c10, c11, c12]] = timetable_Check_1 L c0 c1 c2 c3 c4 c5 c6 c7 c8 c9 c10 c11 c12 := by kernel_rfl
theorem eq_51 (L : Lps) (p0 : PV) : evalFn (S.env L tab_23 otab_0 51 Try.f51) [p0] = route_known L p0 := by kernel_rfl
theorem eq_29 (L : Lps) (c0 c1 c2 c3 c4 c5 c6 c7 c8 c9 c10 c11 c12 : PV) : evalFn (S.env L tab_27 otab_0 29 Try.f29) [PV.rp [c0, c1, c2, c3, c4, c5, c6, c7, c8, c9, c10, c11, c12]] = timetable_Check_3 L c0 c1 c2 c3 c4 c5 c6 c7 c8 c9 c10 c11 c12 := by kernel_rfl
theorem eq_53 (L : Lps) (p0 p1 p2 p3 : PV) : evalFn (S.env L tab_31 otab_0 53 Try.f53) [p0, p1, p2, p3] = call_Check L p0 p1 p2 p3 := by kernel_rfl
theorem eq_78 (L : Lps) (p0 : PV) : evalFn (S.env L tab_35 otab_0 78 Try.f78) [p0] = frequency_moved_1 L p0 := by kernel_rfl
theorem eq_68 (L : Lps) (p0 : PV) : evalFn (S.env L tab_39 otab_0 68 Try.f68) [p0] = frequency_last L p0 := by kernel_rfl
theorem eq_35 (L : Lps) (c0 c1 c2 c3 c4 c5 c6 c7 c8 c9 c10 c11 c12 : PV) : evalFn (S.env L tab_43 otab_0 35 Try.f35) [PV.rp [c0, c1, c2, c3, c4, c5, c6, c7, c8, c9, c10, c11, c12]] = timetable_Check_6 L c0 c1 c2 c3 c4 c5 c6 c7 c8 c9 c10 c11 c12 := by kernel_rfl
theorem eq_59 (L : Lps) (p0 p1 p2 : PV) : evalFn (S.env L tab_47 otab_0 59 Try.f59) [p0, p1, p2] = through_leads L p0 p1 p2 := by kernel_rfl
theorem eq_38 (L : Lps) (p0 p1 p2 : PV) : evalFn (S.env L tab_51 otab_0 38 Try.f38) [p0, p1, p2] = through_Check L p0 p1 p2 := by kernel_rfl
theorem eq_60 (L : Lps) (p0 p1 p2 : PV) : evalFn (S.env L tab_55 otab_0 60 Try.f60) [p0, p1, p2] = through_Meets L p0 p1 p2 := by kernel_rfl
theorem eq_42 (L : Lps) (p0 p1 : PV) : evalFn (S.env L tab_59 otab_0 42 Try.f42) [p0, p1] = footpath_Check L p0 p1 := by kernel_rfl
theorem eq_49 (L : Lps) (p0 p1 : PV) : evalFn (S.env L tab_63 otab_0 49 Try.f49) [p0, p1] = trip_Overtakes L p0 p1 := by kernel_rfl
theorem eq_14 (L : Lps) (p0 : PV) : evalFn (S.env L tab_67 otab_0 14 Try.f14) [p0] = ref18_Sound L p0 := by kernel_rfl
theorem eq_6 (L : Lps) (p0 p1 : PV) : evalFn (S.env L tab_71 otab_0 6 Try.f6) [p0, p1] = ref24_Text L p0 p1 := by kernel_rfl
end Go.Proofs.Ytnbhhepiekhbjaa
