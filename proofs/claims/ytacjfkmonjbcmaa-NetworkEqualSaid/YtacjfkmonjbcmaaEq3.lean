/- The plain Lean functions are what the evaluator makes of the program. Printed by a program of the author. -/
import Derived.Test.YtacjfkmonjbcmaaTab
namespace Go.Proofs.Ytacjfkmonjbcmaa
open Go.Ab
set_option maxRecDepth 1000000
theorem eq_70 (L : Lps) (p0 p1 : PV) : evalFn (S0.env L tab_2 otab_0 70 Try.f70) [p0, p1] = footpath_closure_2 L p0 p1 := by kernel_rfl
theorem eq_52 (L : Lps) (p0 p1 : PV) : evalFn (S.env L tab_6 otab_0 52 Try.f52) [p0, p1] = network_within L p0 p1 := by kernel_rfl
theorem eq_93 (L : Lps) (p0 p1 : PV) : evalFn (S.env L tab_10 otab_0 93 Try.f93) [p0, p1] = shortest_less L p0 p1 := by kernel_rfl
theorem eq_78 (L : Lps) (p0 p1 : PV) : evalFn (S.env L tab_14 otab_0 78 Try.f78) [p0, p1] = shortest_neighbors L p0 p1 := by kernel_rfl
theorem eq_64 (L : Lps) (p0 p1 : PV) : evalFn (S.env L tab_18 otab_0 64 Try.f64) [p0, p1] = footpath_sound L p0 p1 := by kernel_rfl
theorem eq_51 (L : Lps) (p0 p1 p2 p3 : PV) : evalFn (S.env L tab_22 otab_0 51 Try.f51) [p0, p1, p2, p3] = call_Check L p0 p1 p2 p3 := by kernel_rfl
theorem eq_54 (L : Lps) (p0 p1 p2 : PV) : evalFn (S.env L tab_26 otab_0 54 Try.f54) [p0, p1, p2] = product_within L p0 p1 p2 := by kernel_rfl
theorem eq_19 (L : Lps) (p0 : PV) : evalFn (S.env L tab_30 otab_0 19 Try.f19) [p0] = stop_Check L p0 := by kernel_rfl
theorem eq_8 (L : Lps) (p0 : PV) : evalFn (S.env L tab_34 otab_0 8 Try.f8) [p0] = law26_light L p0 := by kernel_rfl
theorem eq_39 (L : Lps) (p0 : PV) : evalFnO (S.env L tab_35 otab_3 39 Try.f39) [p0] = network_fresh_Product L p0 := by kernel_rfl
theorem eq_41 (L : Lps) (p0 p1 : PV) : evalFn (S.env L tab_35 otab_7 41 Try.f41) [p0, p1] = ref26_SameFares L p0 p1 := by kernel_rfl
theorem eq_46 (L : Lps) (p0 p1 : PV) : evalFn (S.env L tab_59 otab_7 46 Try.f46) [p0, p1] = network_sameRun L p0 p1 := by kernel_rfl
theorem eq_44 (L : Lps) (p0 p1 : PV) : evalFn (S.env L tab_63 otab_7 44 Try.f44) [p0, p1] = slices_Equal_Route_Route L p0 p1 := by kernel_rfl
end Go.Proofs.Ytacjfkmonjbcmaa
