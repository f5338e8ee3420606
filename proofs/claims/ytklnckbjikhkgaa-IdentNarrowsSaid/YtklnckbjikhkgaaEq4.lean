/- The plain Lean functions are what the evaluator makes of the program. Printed by a program of the author. -/
import Derived.Test.YtklnckbjikhkgaaTab
namespace Go.Proofs.Ytklnckbjikhkgaa
open Go.Ab
set_option maxRecDepth 1000000
theorem eq_21 (L : Lps) (p0 p1 : PV) : evalFn (S.env L tab_3 otab_0 21 Try.f21) [p0, p1] = ident_Table_Find L p0 p1 := by kernel_rfl
theorem eq_28 (L : Lps) (p0 p1 : PV) : evalFnO (S.env L tab_7 otab_0 28 Try.f28) [p0, p1] = ident_Table_Prefix L p0 p1 := by kernel_rfl
theorem eq_25 (L : Lps) (p0 p1 : PV) : evalFn (S.env L tab_8 otab_3 25 Try.f25) [p0, p1] = law05_same L p0 p1 := by kernel_rfl
theorem eq_3 (L : Lps) (p0 : PV) : evalFn (S.env L tab_11 otab_4 3 Try.f3) [p0] = law05_IdentValids L p0 := by kernel_rfl
theorem eq_22 (L : Lps) (p0 p1 : PV) : evalFn (S.env L tab_15 otab_4 22 Try.f22) [p0, p1] = ref05_Find L p0 p1 := by kernel_rfl
theorem eq_34 (L : Lps) (p0 p1 : PV) : evalFn (S.env L tab_19 otab_4 34 Try.f34) [p0, p1] = ref05_Begins L p0 p1 := by kernel_rfl
theorem eq_30 (L : Lps) (p0 p1 : PV) : evalFn (S.env L tab_23 otab_4 30 Try.f30) [p0, p1] = law05_rises L p0 p1 := by kernel_rfl
theorem eq_11 (L : Lps) (p0 p1 p2 : PV) : evalFn (S.env L tab_27 otab_4 11 Try.f11) [p0, p1, p2] = law05_IdentNarrows L p0 p1 p2 := by kernel_rfl
end Go.Proofs.Ytklnckbjikhkgaa
