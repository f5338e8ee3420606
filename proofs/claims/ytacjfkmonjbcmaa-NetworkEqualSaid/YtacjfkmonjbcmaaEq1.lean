/- The plain Lean functions are what the evaluator makes of the program. Printed by a program of the author. -/
import Derived.Test.YtacjfkmonjbcmaaTab
namespace Go.Proofs.Ytacjfkmonjbcmaa
open Go.Ab
set_option maxRecDepth 1000000
theorem eq_72 (L : Lps) (p0 p1 : PV) : evalFn (S0.env L tab_0 otab_0 72 Try.f72) [p0, p1] = cmp_Compare_int L p0 p1 := by kernel_rfl
theorem eq_53 (L : Lps) (p0 p1 p2 : PV) : evalFn (S.env L tab_4 otab_0 53 Try.f53) [p0, p1, p2] = network_leads L p0 p1 p2 := by kernel_rfl
theorem eq_91 (L : Lps) (p0 c1 : PV) : evalFn (S.env L tab_8 otab_0 91 Try.f91) [p0, PV.rp [c1]] = shortest_check_1 L p0 c1 := by kernel_rfl
theorem eq_80 (L : Lps) (p0 p1 p2 : PV) : evalFn (S.env L tab_12 otab_0 80 Try.f80) [p0, p1, p2] = shortest_labels L p0 p1 p2 := by kernel_rfl
theorem eq_67 (L : Lps) (p0 p1 p2 : PV) : evalFn (S.env L tab_16 otab_0 67 Try.f67) [p0, p1, p2] = footpath_distances L p0 p1 p2 := by kernel_rfl
theorem eq_26 (L : Lps) (p0 : PV) : evalFn (S.env L tab_20 otab_0 26 Try.f26) [p0] = network_checkPaths L p0 := by kernel_rfl
theorem eq_23 (L : Lps) (p0 : PV) : evalFn (S.env L tab_24 otab_0 23 Try.f23) [p0] = network_checkRuns L p0 := by kernel_rfl
theorem eq_50 (L : Lps) (p0 : PV) : evalFn (S.env L tab_28 otab_0 50 Try.f50) [p0] = route_known L p0 := by kernel_rfl
theorem eq_12 (L : Lps) (p0 : PV) : evalFn (S.env L tab_32 otab_0 12 Try.f12) [p0] = network_Horizon L p0 := by kernel_rfl
theorem eq_37 (L : Lps) (p0 : PV) : evalFnO (S.env L tab_35 otab_1 37 Try.f37) [p0] = network_fresh_Footpath L p0 := by kernel_rfl
theorem eq_35 (L : Lps) (p0 : PV) : evalFnO (S.env L tab_35 otab_5 35 Try.f35) [p0] = network_fresh_Run L p0 := by kernel_rfl
theorem eq_40 (L : Lps) (p0 p1 : PV) : evalFn (S.env L tab_53 otab_7 40 Try.f40) [p0, p1] = ref26_SameRuns L p0 p1 := by kernel_rfl
theorem eq_47 (L : Lps) (p0 p1 : PV) : evalFn (S.env L tab_61 otab_7 47 Try.f47) [p0, p1] = slices_Equal_Link_Link L p0 p1 := by kernel_rfl
theorem eq_17 (L : Lps) (p0 p1 : PV) : evalFn (S.env L tab_65 otab_7 17 Try.f17) [p0, p1] = network_Equal L p0 p1 := by kernel_rfl
end Go.Proofs.Ytacjfkmonjbcmaa
