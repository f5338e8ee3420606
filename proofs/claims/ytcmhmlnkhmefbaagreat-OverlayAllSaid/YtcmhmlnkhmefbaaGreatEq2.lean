import Derived.Test.YtcmhmlnkhmefbaaGreatTab
namespace Go.Proofs.YtcmhmlnkhmefbaaGreat
open Go.Ab
set_option maxRecDepth 1000000
theorem eq_101(L:bk)(p0:PV):aL (S0.env L Tc bR 101 Tryz.f101) [p0]=wL L p0:=by kernel_rfl
theorem eq_23(L:bk):aL (S.env L Td bR 23 Tryz.f23) []=wh L:=by kernel_rfl
theorem eq_93(L:bk)(p0:PV):aL (S.env L Te bR 93 Tryz.f93) [p0]=qZ L p0:=by kernel_rfl
theorem eq_51(L:bk)(p0 p1:PV):aL (S.env L KL bR 51 Tryz.f51) [p0,p1]=ly L p0 p1:=by kernel_rfl
theorem eq_43(L:bk)(p0 p1 p2:PV):aL (S.env L KM bR 43 Tryz.f43) [p0,p1,p2]=CD L p0 p1 p2:=by kernel_rfl
theorem eq_107(L:bk)(p0 p1 p2:PV):aL (S.env L KN bR 107 Tryz.f107) [p0,p1,p2]=pB L p0 p1 p2:=by kernel_rfl
theorem eq_109(L:bk)(p0:PV):aL (S.env L KO bR 109 Tryz.f109) [p0]=mz L p0:=by kernel_rfl
theorem eq_92(L:bk)(p0 p1:PV):aL (S.env L KP bR 92 Tryz.f92) [p0,p1]=mA L p0 p1:=by kernel_rfl
theorem eq_44(L:bk)(p0:PV):aL (S.env L KQ bR 44 Tryz.f44) [p0]=lz L p0:=by kernel_rfl
theorem eq_76(L:bk)(p0:PV):aL (S.env L KS bR 76 Tryz.f76) [p0]=uk L p0:=by kernel_rfl
theorem eq_58(L:bk)(p0:PV):j3 (S.env L qX bR 58 Tryz.f58) [p0]=kx L p0:=by kernel_rfl
theorem eq_54(L:bk)(p0:PV):j3 (S.env L qX KT 54 Tryz.f54) [p0]=jC L p0:=by kernel_rfl
theorem eq_82(L:bk)(p0:PV):j3 (S.env L FP FN 82 Tryz.f82) [p0]=q6 L p0:=by kernel_rfl
theorem eq_75(L:bk)(p0 p1:PV):aL (S.env L KU bX 75 Tryz.f75) [p0,p1]=gO L p0 p1:=by kernel_rfl
theorem eq_86(L:bk)(p0:PV):aL (S.env L KV bX 86 Tryz.f86) [p0]=q7 L p0:=by kernel_rfl
theorem eq_72(L:bk)(p0 p1:PV):aL (S.env L KW bX 72 Tryz.f72) [p0,p1]=wM L p0 p1:=by kernel_rfl
theorem eq_70(L:bk)(p0:PV):aL (S.env L KX bX 70 Tryz.f70) [p0]=sL L p0:=by kernel_rfl
theorem eq_38(L:bk)(p0:PV):aL (S.env L KY bX 38 Tryz.f38) [p0]=uo L p0:=by kernel_rfl
theorem eq_36(L:bk)(p0 p1:PV):aL (S.env L KZ bX 36 Tryz.f36) [p0,p1]=pC L p0 p1:=by kernel_rfl
theorem eq_66(L:bk)(p0 p1 p2:PV):aL (S.env L K0 bX 66 Tryz.f66) [p0,p1,p2]=uq L p0 p1 p2:=by kernel_rfl
theorem eq_30(L:bk)(p0:PV):aL (S.env L K1 bX 30 Tryz.f30) [p0]=ur L p0:=by kernel_rfl
theorem eq_16(L:bk)(p0 p1:PV):aL (S.env L K2 bX 16 Tryz.f16) [p0,p1]=uu L p0 p1:=by kernel_rfl
theorem eq_21(L:bk)(p0 p1:PV):aL (S.env L K3 bX 21 Tryz.f21) [p0,p1]=y9 L p0 p1:=by kernel_rfl
end Go.Proofs.YtcmhmlnkhmefbaaGreat
