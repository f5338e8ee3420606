import Derived.Test.YtcmhmlnkhmefbaaGreatTab
namespace Go.Proofs.YtcmhmlnkhmefbaaGreat
open Go.Ab
set_option maxRecDepth 1000000
theorem eq_101(L:bA)(p0:PV):aP (S0.env L RL bS 101 Tryz.f101) [p0]=v7 L p0:=by kernel_rfl
theorem eq_23(L:bA):aP (S.env L RM bS 23 Tryz.f23) []=vF L:=by kernel_rfl
theorem eq_93(L:bA)(p0:PV):aP (S.env L RN bS 93 Tryz.f93) [p0]=qA L p0:=by kernel_rfl
theorem eq_51(L:bA)(p0 p1:PV):aP (S.env L JP bS 51 Tryz.f51) [p0,p1]=kY L p0 p1:=by kernel_rfl
theorem eq_43(L:bA)(p0 p1 p2:PV):aP (S.env L JQ bS 43 Tryz.f43) [p0,p1,p2]=B3 L p0 p1 p2:=by kernel_rfl
theorem eq_107(L:bA)(p0 p1 p2:PV):aP (S.env L JR bS 107 Tryz.f107) [p0,p1,p2]=oM L p0 p1 p2:=by kernel_rfl
theorem eq_109(L:bA)(p0:PV):aP (S.env L JS bS 109 Tryz.f109) [p0]=l6 L p0:=by kernel_rfl
theorem eq_92(L:bA)(p0 p1:PV):aP (S.env L JT bS 92 Tryz.f92) [p0,p1]=l7 L p0 p1:=by kernel_rfl
theorem eq_44(L:bA)(p0:PV):aP (S.env L JU bS 44 Tryz.f44) [p0]=kZ L p0:=by kernel_rfl
theorem eq_76(L:bA)(p0:PV):aP (S.env L JV bS 76 Tryz.f76) [p0]=tM L p0:=by kernel_rfl
theorem eq_58(L:bA)(p0:PV):kL (S.env L qz bS 58 Tryz.f58) [p0]=j5 L p0:=by kernel_rfl
theorem eq_54(L:bA)(p0:PV):kL (S.env L qz JW 54 Tryz.f54) [p0]=jr L p0:=by kernel_rfl
theorem eq_82(L:bA)(p0:PV):kL (S.env L ER EO 82 Tryz.f82) [p0]=qB L p0:=by kernel_rfl
theorem eq_75(L:bA)(p0 p1:PV):aP (S.env L JX dJ 75 Tryz.f75) [p0,p1]=gL L p0 p1:=by kernel_rfl
theorem eq_86(L:bA)(p0:PV):aP (S.env L JY dJ 86 Tryz.f86) [p0]=qC L p0:=by kernel_rfl
theorem eq_72(L:bA)(p0 p1:PV):aP (S.env L JZ dJ 72 Tryz.f72) [p0,p1]=v8 L p0 p1:=by kernel_rfl
theorem eq_70(L:bA)(p0:PV):aP (S.env L J0 dJ 70 Tryz.f70) [p0]=si L p0:=by kernel_rfl
theorem eq_38(L:bA)(p0:PV):aP (S.env L J1 dJ 38 Tryz.f38) [p0]=tN L p0:=by kernel_rfl
theorem eq_36(L:bA)(p0 p1:PV):aP (S.env L J2 dJ 36 Tryz.f36) [p0,p1]=oN L p0 p1:=by kernel_rfl
end Go.Proofs.YtcmhmlnkhmefbaaGreat
