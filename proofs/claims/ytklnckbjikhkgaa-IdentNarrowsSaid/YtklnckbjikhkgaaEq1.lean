/- The plain Lean functions are what the evaluator makes of the program. Printed by a program of the author. -/
import Derived.Test.YtklnckbjikhkgaaTab
namespace Go.Proofs.Ytklnckbjikhkgaa
open Go.Ab
set_option maxRecDepth 1000000
theorem eq_15 (L : Lps) (p0 p1 : PV) : evalFn (S0.env L tab_0 otab_0 15 Try.f15) [p0, p1] = ident_Compare L p0 p1 := by kernel_rfl
theorem eq_24 (L : Lps) (p0 : PV) : evalFn (S.env L tab_4 otab_0 24 Try.f24) [p0] = ident_Table_Len L p0 := by kernel_rfl
theorem eq_33 (L : Lps) (p0 : PV) : evalFnO (S.env L tab_7 otab_1 33 Try.f33) [p0] = slices_Clone_int_int L p0 := by kernel_rfl
theorem eq_36 (L : Lps) (p0 : PV) : evalFnO (S.env L tab_9 otab_3 36 Try.f36) [p0] = slices_Clone_string_string L p0 := by kernel_rfl
theorem eq_16 (L : Lps) (p0 p1 : PV) : evalFn (S.env L tab_12 otab_4 16 Try.f16) [p0, p1] = ref05_Compare L p0 p1 := by kernel_rfl
theorem eq_19 (L : Lps) (p0 : PV) : evalFn (S.env L tab_16 otab_4 19 Try.f19) [p0] = ref05_Unique L p0 := by kernel_rfl
theorem eq_27 (L : Lps) (p0 p1 : PV) : evalFn (S.env L tab_20 otab_4 27 Try.f27) [p0, p1] = ref05_Prefix L p0 p1 := by kernel_rfl
theorem eq_9 (L : Lps) (p0 p1 : PV) : evalFn (S.env L tab_24 otab_4 9 Try.f9) [p0, p1] = law05_IdentTable L p0 p1 := by kernel_rfl
end Go.Proofs.Ytklnckbjikhkgaa
