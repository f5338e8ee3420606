/- The plain Lean functions are what the evaluator makes of the program. Printed by a program of the author. -/
import Derived.Test.YtklnckbjikhkgaaTab
namespace Go.Proofs.Ytklnckbjikhkgaa
open Go.Ab
set_option maxRecDepth 1000000
theorem eq_12 (L : Lps) (p0 : PV) : evalFn (S.env L tab_2 otab_0 12 Try.f12) [p0] = ident_Valid L p0 := by kernel_rfl
theorem eq_35 (L : Lps) (p0 p1 : PV) : evalFn (S.env L tab_6 otab_0 35 Try.f35) [p0, p1] = strings_HasPrefix L p0 p1 := by kernel_rfl
theorem eq_18 (L : Lps) (p0 : PV) : evalFn (S.env L tab_7 otab_3 18 Try.f18) [p0] = ident_Unique L p0 := by kernel_rfl
theorem eq_13 (L : Lps) (p0 : PV) : evalFn (S.env L tab_10 otab_4 13 Try.f13) [p0] = ref05_Valid L p0 := by kernel_rfl
theorem eq_17 (L : Lps) (p0 : PV) : evalFn (S.env L tab_14 otab_4 17 Try.f17) [p0] = law05_small L p0 := by kernel_rfl
theorem eq_6 (L : Lps) (p0 p1 p2 : PV) : evalFn (S.env L tab_18 otab_4 6 Try.f6) [p0, p1, p2] = law05_IdentFinds L p0 p1 p2 := by kernel_rfl
theorem eq_8 (L : Lps) (p0 p1 p2 : PV) : evalFn (S.env L tab_22 otab_4 8 Try.f8) [p0, p1, p2] = law05_IdentOrders L p0 p1 p2 := by kernel_rfl
theorem eq_31 (L : Lps) (p0 p1 : PV) : evalFn (S.env L tab_26 otab_4 31 Try.f31) [p0, p1] = law05_section L p0 p1 := by kernel_rfl
end Go.Proofs.Ytklnckbjikhkgaa
