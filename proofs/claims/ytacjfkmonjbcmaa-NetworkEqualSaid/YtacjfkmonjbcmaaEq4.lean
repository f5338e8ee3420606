/- The plain Lean functions are what the evaluator makes of the program. Printed by a program of the author. -/
import Derived.Test.YtacjfkmonjbcmaaTab
namespace Go.Proofs.Ytacjfkmonjbcmaa
open Go.Ab
set_option maxRecDepth 1000000
theorem eq_18 (L : Lps) : evalFn (S.env L tab_3 otab_0 18 Try.f18) [] = law26_example L  := by kernel_rfl
theorem eq_24 (L : Lps) (p0 : PV) : evalFn (S.env L tab_7 otab_0 24 Try.f24) [p0] = network_checkLinks L p0 := by kernel_rfl
theorem eq_101 (L : Lps) (c01 c02 p1 p2 : PV) : evalFn (S.env L tab_11 otab_0 101 Try.f101) [PV.rp [PV.fn 93 [], c01, c02], p1, p2] = heap_Heap_shortest_label_before L c01 c02 p1 p2 := by kernel_rfl
theorem eq_73 (L : Lps) (p0 p1 : PV) : evalFn (S.env L tab_15 otab_0 73 Try.f73) [p0, p1] = shortest_All L p0 p1 := by kernel_rfl
theorem eq_55 (L : Lps) (p0 p1 : PV) : evalFn (S.env L tab_19 otab_0 55 Try.f55) [p0, p1] = footpath_IsClosed L p0 p1 := by kernel_rfl
theorem eq_49 (L : Lps) (p0 : PV) : evalFn (S.env L tab_23 otab_0 49 Try.f49) [p0] = ident_Valid L p0 := by kernel_rfl
theorem eq_25 (L : Lps) (p0 : PV) : evalFn (S.env L tab_27 otab_0 25 Try.f25) [p0] = product_Check L p0 := by kernel_rfl
theorem eq_10 (L : Lps) (p0 : PV) : evalFn (S.env L tab_31 otab_0 10 Try.f10) [p0] = network_Check L p0 := by kernel_rfl
theorem eq_38 (L : Lps) (p0 : PV) : evalFnO (S.env L tab_35 otab_0 38 Try.f38) [p0] = network_fresh_Call L p0 := by kernel_rfl
theorem eq_34 (L : Lps) (p0 : PV) : evalFnO (S.env L tab_35 otab_4 34 Try.f34) [p0] = network_fresh_Route L p0 := by kernel_rfl
theorem eq_61 (L : Lps) (p0 p1 : PV) : evalFn (S.env L tab_52 otab_7 61 Try.f61) [p0, p1] = ref26_SameCalls L p0 p1 := by kernel_rfl
theorem eq_48 (L : Lps) (p0 p1 : PV) : evalFn (S.env L tab_60 otab_7 48 Try.f48) [p0, p1] = slices_Equal_Footpath_Footpath L p0 p1 := by kernel_rfl
theorem eq_43 (L : Lps) (p0 p1 : PV) : evalFn (S.env L tab_64 otab_7 43 Try.f43) [p0, p1] = slices_Equal_Stop_Stop L p0 p1 := by kernel_rfl
end Go.Proofs.Ytacjfkmonjbcmaa
