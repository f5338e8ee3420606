/- The plain Lean functions are what the evaluator makes of the program. Printed by a program of the author. -/
import Derived.Test.YtinbhofpofcmeaaGreatDoorTab
namespace Go.Proofs.YtinbhofpofcmeaaGreatDoor
open Go.Ab
set_option maxRecDepth 1000000
theorem eq_42 (L : Lps) (p0 : PV) : evalFn (S.env L tab_5 otab_0 42 Tryz.f42) [p0] = ident_Valid L p0 := by kernel_rfl
theorem eq_21 (L : Lps) (p0 p1 p2 p3 : PV) : evalFn (S.env L tab_9 otab_0 21 Tryz.f21) [p0, p1, p2, p3] = calendar_Active L p0 p1 p2 p3 := by kernel_rfl
theorem eq_145 (L : Lps) (p0 p1 p2 : PV) : evalFn (S.env L tab_13 otab_0 145 Tryz.f145) [p0, p1, p2] = frequency_moved L p0 p1 p2 := by kernel_rfl
theorem eq_22 (L : Lps) (p0 p1 : PV) : evalFn (S.env L tab_17 otab_0 22 Tryz.f22) [p0, p1] = frequency_Repeated L p0 p1 := by kernel_rfl
theorem eq_113 (L : Lps) (p0 p1 p2 : PV) : evalFn (S.env L tab_21 otab_0 113 Tryz.f113) [p0, p1, p2] = product_within L p0 p1 p2 := by kernel_rfl
theorem eq_65 (L : Lps) (p0 : PV) : evalFn (S.env L tab_25 otab_0 65 Tryz.f65) [p0] = route_Check L p0 := by kernel_rfl
theorem eq_69 (L : Lps) (p0 p1 : PV) : evalFn (S.env L tab_29 otab_0 69 Tryz.f69) [p0, p1] = calendar_CheckExceptions L p0 p1 := by kernel_rfl
theorem eq_71 (L : Lps) (p0 p1 p2 p3 : PV) : evalFn (S.env L tab_33 otab_0 71 Tryz.f71) [p0, p1, p2, p3] = trip_Check L p0 p1 p2 p3 := by kernel_rfl
theorem eq_107 (L : Lps) (p0 p1 : PV) : evalFn (S.env L tab_37 otab_0 107 Tryz.f107) [p0, p1] = frequency_fits L p0 p1 := by kernel_rfl
theorem eq_100 (L : Lps) (p0 p1 : PV) : evalFn (S.env L tab_41 otab_0 100 Tryz.f100) [p0, p1] = through_Next L p0 p1 := by kernel_rfl
theorem eq_109 (L : Lps) (p0 p1 p2 p3 : PV) : evalFn (S.env L tab_45 otab_0 109 Tryz.f109) [p0, p1, p2, p3] = through_pair L p0 p1 p2 p3 := by kernel_rfl
theorem eq_140 (L : Lps) (p0 p1 : PV) : evalFn (S.env L tab_49 otab_0 140 Tryz.f140) [p0, p1] = through_boarding L p0 p1 := by kernel_rfl
theorem eq_112 (L : Lps) (p0 p1 : PV) : evalFn (S.env L tab_53 otab_0 112 Tryz.f112) [p0, p1] = footpath_sound L p0 p1 := by kernel_rfl
theorem eq_14 (L : Lps) (p0 p1 : PV) : evalFn (S.env L tab_57 otab_0 14 Tryz.f14) [p0, p1] = runs_OfDay L p0 p1 := by kernel_rfl
theorem eq_46 (L : Lps) (p0 p1 : PV) : evalFn (S.env L tab_61 otab_0 46 Tryz.f46) [p0, p1] = strings_Cut L p0 p1 := by kernel_rfl
theorem eq_19 (L : Lps) (p0 : PV) : evalFn (S.env L tab_65 otab_0 19 Tryz.f19) [p0] = runs_ParseKey L p0 := by kernel_rfl
theorem eq_12 (L : Lps) (p0 : PV) : evalFn (S.env L tab_69 otab_0 12 Tryz.f12) [p0] = ref25_Light L p0 := by kernel_rfl
theorem eq_150 (L : Lps) (p0 : PV) : evalFn (S.env L tab_73 otab_0 150 Tryz.f150) [p0] = ref02_Valid L p0 := by kernel_rfl
theorem eq_147 (L : Lps) (p0 : PV) : evalFn (S.env L tab_77 otab_0 147 Tryz.f147) [p0] = ref15_Name L p0 := by kernel_rfl
theorem eq_175 (L : Lps) (p0 p1 : PV) : evalFn (S.env L tab_81 otab_0 175 Tryz.f175) [p0, p1] = ref17_calls L p0 p1 := by kernel_rfl
theorem eq_128 (L : Lps) (p0 p1 p2 : PV) : evalFn (S.env L tab_85 otab_0 128 Tryz.f128) [p0, p1, p2] = ref18_Shift L p0 p1 p2 := by kernel_rfl
theorem eq_121 (L : Lps) (p0 p1 : PV) : evalFn (S.env L tab_89 otab_0 121 Tryz.f121) [p0, p1] = ref18_Check L p0 p1 := by kernel_rfl
theorem eq_176 (L : Lps) (p0 p1 : PV) : evalFn (S.env L tab_93 otab_0 176 Tryz.f176) [p0, p1] = ref19_in L p0 p1 := by kernel_rfl
theorem eq_104 (L : Lps) (p0 p1 p2 : PV) : evalFn (S.env L tab_97 otab_0 104 Tryz.f104) [p0, p1, p2] = ref19_Meets L p0 p1 p2 := by kernel_rfl
theorem eq_124 (L : Lps) (p0 p1 : PV) : evalFn (S.env L tab_101 otab_0 124 Tryz.f124) [p0, p1] = ref20_Check L p0 p1 := by kernel_rfl
theorem eq_84 (L : Lps) (p0 p1 : PV) : evalFn (S.env L tab_105 otab_0 84 Tryz.f84) [p0, p1] = ref22_part L p0 p1 := by kernel_rfl
theorem eq_85 (L : Lps) (p0 p1 p2 p3 : PV) : evalFn (S.env L tab_109 otab_0 85 Tryz.f85) [p0, p1, p2, p3] = ref14_Active L p0 p1 p2 p3 := by kernel_rfl
theorem eq_40 (L : Lps) (p0 p1 : PV) : evalFn (S.env L tab_113 otab_0 40 Tryz.f40) [p0, p1] = ref25_Day L p0 p1 := by kernel_rfl
theorem eq_41 (L : Lps) (p0 p1 : PV) : evalFn (S.env L tab_117 otab_0 41 Tryz.f41) [p0, p1] = ref25_SameRun L p0 p1 := by kernel_rfl
theorem eq_61 (L : Lps) (p0 p1 p2 : PV) : evalFn (S.env L tab_121 otab_0 61 Tryz.f61) [p0, p1, p2] = ref25_from L p0 p1 p2 := by kernel_rfl
theorem eq_171 (L : Lps) (p0 p1 : PV) : evalFn (S.env L tab_125 otab_0 171 Tryz.f171) [p0, p1] = call_Equal L p0 p1 := by kernel_rfl
theorem eq_59 (L : Lps) (p0 p1 p2 p3 : PV) : evalFn (S.env L tab_129 otab_0 59 Tryz.f59) [p0, p1, p2, p3] = runs_of L p0 p1 p2 p3 := by kernel_rfl
end Go.Proofs.YtinbhofpofcmeaaGreatDoor
