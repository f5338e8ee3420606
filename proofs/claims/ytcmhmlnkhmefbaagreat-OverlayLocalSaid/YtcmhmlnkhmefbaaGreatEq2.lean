import Derived.Test.YtcmhmlnkhmefbaaGreatTab
namespace Go.Proofs.YtcmhmlnkhmefbaaGreat
open Go.Ab
set_option maxRecDepth 1000000
theorem eq_101(L:bC)(p0:PV):aQ (S0.env L RM bU 101 Tryz.f101) [p0]=wj L p0:=by kernel_rfl
theorem eq_23(L:bC):aQ (S.env L RN bU 23 Tryz.f23) []=vK L:=by kernel_rfl
theorem eq_93(L:bC)(p0:PV):aQ (S.env L RO bU 93 Tryz.f93) [p0]=qD L p0:=by kernel_rfl
theorem eq_51(L:bC)(p0 p1:PV):aQ (S.env L JH bU 51 Tryz.f51) [p0,p1]=lb L p0 p1:=by kernel_rfl
theorem eq_43(L:bC)(p0 p1 p2:PV):aQ (S.env L JI bU 43 Tryz.f43) [p0,p1,p2]=B8 L p0 p1 p2:=by kernel_rfl
theorem eq_107(L:bC)(p0 p1 p2:PV):aQ (S.env L JJ bU 107 Tryz.f107) [p0,p1,p2]=oP L p0 p1 p2:=by kernel_rfl
theorem eq_109(L:bC)(p0:PV):aQ (S.env L JK bU 109 Tryz.f109) [p0]=ma L p0:=by kernel_rfl
theorem eq_92(L:bC)(p0 p1:PV):aQ (S.env L JL bU 92 Tryz.f92) [p0,p1]=mb L p0 p1:=by kernel_rfl
theorem eq_44(L:bC)(p0:PV):aQ (S.env L JM bU 44 Tryz.f44) [p0]=lf L p0:=by kernel_rfl
theorem eq_76(L:bC)(p0:PV):aQ (S.env L JN bU 76 Tryz.f76) [p0]=tS L p0:=by kernel_rfl
theorem eq_58(L:bC)(p0:PV):kQ (S.env L qC bU 58 Tryz.f58) [p0]=kc L p0:=by kernel_rfl
theorem eq_54(L:bC)(p0:PV):kQ (S.env L qC JO 54 Tryz.f54) [p0]=jw L p0:=by kernel_rfl
theorem eq_82(L:bC)(p0:PV):kQ (S.env L ET ER 82 Tryz.f82) [p0]=qE L p0:=by kernel_rfl
theorem eq_75(L:bC)(p0 p1:PV):aQ (S.env L JP dM 75 Tryz.f75) [p0,p1]=gO L p0 p1:=by kernel_rfl
theorem eq_86(L:bC)(p0:PV):aQ (S.env L JQ dM 86 Tryz.f86) [p0]=qF L p0:=by kernel_rfl
theorem eq_72(L:bC)(p0 p1:PV):aQ (S.env L JR dM 72 Tryz.f72) [p0,p1]=wk L p0 p1:=by kernel_rfl
theorem eq_70(L:bC)(p0:PV):aQ (S.env L JS dM 70 Tryz.f70) [p0]=so L p0:=by kernel_rfl
theorem eq_38(L:bC)(p0:PV):aQ (S.env L JT dM 38 Tryz.f38) [p0]=tT L p0:=by kernel_rfl
theorem eq_36(L:bC)(p0 p1:PV):aQ (S.env L JU dM 36 Tryz.f36) [p0,p1]=oQ L p0 p1:=by kernel_rfl
end Go.Proofs.YtcmhmlnkhmefbaaGreat
