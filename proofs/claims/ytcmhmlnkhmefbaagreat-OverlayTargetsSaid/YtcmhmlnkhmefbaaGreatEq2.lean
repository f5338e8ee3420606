import Derived.Test.YtcmhmlnkhmefbaaGreatTab
namespace Go.Proofs.YtcmhmlnkhmefbaaGreat
open Go.Ab
set_option maxRecDepth 1000000
theorem eq_101(L:bL)(p0:PV):aR (S0.env L QK bR 101 Tryz.f101) [p0]=vB L p0:=by kernel_rfl
theorem eq_23(L:bL):aR (S.env L QL bR 23 Tryz.f23) []=va L:=by kernel_rfl
theorem eq_93(L:bL)(p0:PV):aR (S.env L QM bR 93 Tryz.f93) [p0]=pY L p0:=by kernel_rfl
theorem eq_51(L:bL)(p0 p1:PV):aR (S.env L I4 bR 51 Tryz.f51) [p0,p1]=kQ L p0 p1:=by kernel_rfl
theorem eq_43(L:bL)(p0 p1 p2:PV):aR (S.env L I5 bR 43 Tryz.f43) [p0,p1,p2]=Bu L p0 p1 p2:=by kernel_rfl
theorem eq_107(L:bL)(p0 p1 p2:PV):aR (S.env L I6 bR 107 Tryz.f107) [p0,p1,p2]=ov L p0 p1 p2:=by kernel_rfl
theorem eq_109(L:bL)(p0:PV):aR (S.env L I7 bR 109 Tryz.f109) [p0]=lQ L p0:=by kernel_rfl
theorem eq_92(L:bL)(p0 p1:PV):aR (S.env L I8 bR 92 Tryz.f92) [p0,p1]=lR L p0 p1:=by kernel_rfl
theorem eq_44(L:bL)(p0:PV):aR (S.env L I9 bR 44 Tryz.f44) [p0]=kR L p0:=by kernel_rfl
theorem eq_76(L:bL)(p0:PV):aR (S.env L Ja bR 76 Tryz.f76) [p0]=tn L p0:=by kernel_rfl
theorem eq_58(L:bL)(p0:PV):kC (S.env L pX bR 58 Tryz.f58) [p0]=jV L p0:=by kernel_rfl
theorem eq_54(L:bL)(p0:PV):kC (S.env L pX Jb 54 Tryz.f54) [p0]=je L p0:=by kernel_rfl
theorem eq_82(L:bL)(p0:PV):kC (S.env L Eg Ee 82 Tryz.f82) [p0]=pZ L p0:=by kernel_rfl
theorem eq_75(L:bL)(p0 p1:PV):aR (S.env L Jc eL 75 Tryz.f75) [p0,p1]=gA L p0 p1:=by kernel_rfl
theorem eq_86(L:bL)(p0:PV):aR (S.env L Jd eL 86 Tryz.f86) [p0]=qd L p0:=by kernel_rfl
theorem eq_72(L:bL)(p0 p1:PV):aR (S.env L Je eL 72 Tryz.f72) [p0,p1]=vC L p0 p1:=by kernel_rfl
theorem eq_70(L:bL)(p0:PV):aR (S.env L Jf eL 70 Tryz.f70) [p0]=rB L p0:=by kernel_rfl
theorem eq_38(L:bL)(p0:PV):aR (S.env L Jg eL 38 Tryz.f38) [p0]=tp L p0:=by kernel_rfl
theorem eq_3(L:bL)(p0 p1:PV):aR (S.env L Jh eL 3 Tryz.f3) [p0,p1]=iG L p0 p1:=by kernel_rfl
end Go.Proofs.YtcmhmlnkhmefbaaGreat
