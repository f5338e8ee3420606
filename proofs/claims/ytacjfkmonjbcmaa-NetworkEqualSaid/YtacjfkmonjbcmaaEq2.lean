/- The plain Lean functions are what the evaluator makes of the program. Printed by a program of the author. -/
import Derived.Test.YtacjfkmonjbcmaaTab
namespace Go.Proofs.Ytacjfkmonjbcmaa
open Go.Ab
set_option maxRecDepth 1000000
theorem eq_71 (L : Lps) (p0 : PV) : evalFn (S0.env L tab_1 otab_0 71 Try.f71) [p0] = cmp_Or_int L p0 := by kernel_rfl
theorem eq_22 (L : Lps) (p0 p1 p2 : PV) : evalFn (S.env L tab_5 otab_0 22 Try.f22) [p0, p1, p2] = network_of L p0 p1 p2 := by kernel_rfl
theorem eq_77 (L : Lps) (p0 p1 p2 : PV) : evalFn (S.env L tab_9 otab_0 77 Try.f77) [p0, p1, p2] = shortest_check L p0 p1 p2 := by kernel_rfl
theorem eq_79 (L : Lps) (p0 : PV) : evalFn (S.env L tab_13 otab_0 79 Try.f79) [p0] = shortest_lengths L p0 := by kernel_rfl
theorem eq_65 (L : Lps) (p0 p1 : PV) : evalFn (S.env L tab_17 otab_0 65 Try.f65) [p0, p1] = footpath_closure L p0 p1 := by kernel_rfl
theorem eq_63 (L : Lps) (p0 p1 p2 p3 p4 : PV) : evalFn (S.env L tab_21 otab_0 63 Try.f63) [p0, p1, p2, p3, p4] = call_one L p0 p1 p2 p3 p4 := by kernel_rfl
theorem eq_21 (L : Lps) (p0 : PV) : evalFn (S.env L tab_25 otab_0 21 Try.f21) [p0] = network_first L p0 := by kernel_rfl
theorem eq_20 (L : Lps) (p0 : PV) : evalFn (S.env L tab_29 otab_0 20 Try.f20) [p0] = route_Check L p0 := by kernel_rfl
theorem eq_9 (L : Lps) : evalFn (S.env L tab_33 otab_0 9 Try.f9) [] = law26_exampleHolds L  := by kernel_rfl
theorem eq_36 (L : Lps) (p0 : PV) : evalFnO (S.env L tab_35 otab_2 36 Try.f36) [p0] = network_fresh_Link L p0 := by kernel_rfl
theorem eq_33 (L : Lps) (p0 : PV) : evalFnO (S.env L tab_35 otab_6 33 Try.f33) [p0] = network_fresh_Stop L p0 := by kernel_rfl
theorem eq_15 (L : Lps) (p0 p1 : PV) : evalFn (S.env L tab_54 otab_7 15 Try.f15) [p0, p1] = ref26_Equal L p0 p1 := by kernel_rfl
theorem eq_62 (L : Lps) (p0 p1 : PV) : evalFn (S.env L tab_55 otab_7 62 Try.f62) [p0, p1] = slices_Equal_Call_Call L p0 p1 := by kernel_rfl
theorem eq_42 (L : Lps) (p0 p1 : PV) : evalFn (S.env L tab_62 otab_7 42 Try.f42) [p0, p1] = slices_Equal_Product_Product L p0 p1 := by kernel_rfl
theorem eq_7 (L : Lps) (p0 p1 : PV) : evalFn (S.env L tab_66 otab_7 7 Try.f7) [p0, p1] = law26_NetworkEqual L p0 p1 := by kernel_rfl
end Go.Proofs.Ytacjfkmonjbcmaa
