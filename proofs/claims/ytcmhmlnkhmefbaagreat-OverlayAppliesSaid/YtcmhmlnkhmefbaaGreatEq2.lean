import Derived.Test.YtcmhmlnkhmefbaaGreatTab
namespace Go.Proofs.YtcmhmlnkhmefbaaGreat
open Go.Ab
set_option maxRecDepth 1000000
theorem eq_101(L:bk)(p0:PV):aM (S0.env L SP bR 101 Tryz.f101) [p0]=wL L p0:=by kernel_rfl
theorem eq_23(L:bk):aM (S.env L SQ bR 23 Tryz.f23) []=wg L:=by kernel_rfl
theorem eq_93(L:bk)(p0:PV):aM (S.env L SR bR 93 Tryz.f93) [p0]=qV L p0:=by kernel_rfl
theorem eq_51(L:bk)(p0 p1:PV):aM (S.env L Ky bR 51 Tryz.f51) [p0,p1]=ly L p0 p1:=by kernel_rfl
theorem eq_43(L:bk)(p0 p1 p2:PV):aM (S.env L Kz bR 43 Tryz.f43) [p0,p1,p2]=Cz L p0 p1 p2:=by kernel_rfl
theorem eq_107(L:bk)(p0 p1 p2:PV):aM (S.env L KA bR 107 Tryz.f107) [p0,p1,p2]=pe L p0 p1 p2:=by kernel_rfl
theorem eq_109(L:bk)(p0:PV):aM (S.env L KB bR 109 Tryz.f109) [p0]=my L p0:=by kernel_rfl
theorem eq_92(L:bk)(p0 p1:PV):aM (S.env L KC bR 92 Tryz.f92) [p0,p1]=mz L p0 p1:=by kernel_rfl
theorem eq_44(L:bk)(p0:PV):aM (S.env L KD bR 44 Tryz.f44) [p0]=lz L p0:=by kernel_rfl
theorem eq_76(L:bk)(p0:PV):aM (S.env L KE bR 76 Tryz.f76) [p0]=ui L p0:=by kernel_rfl
theorem eq_58(L:bk)(p0:PV):jZ (S.env L qT bR 58 Tryz.f58) [p0]=kx L p0:=by kernel_rfl
theorem eq_54(L:bk)(p0:PV):jZ (S.env L qT KF 54 Tryz.f54) [p0]=jB L p0:=by kernel_rfl
theorem eq_82(L:bk)(p0:PV):jZ (S.env L FC FA 82 Tryz.f82) [p0]=qW L p0:=by kernel_rfl
theorem eq_75(L:bk)(p0 p1:PV):aM (S.env L KG cd 75 Tryz.f75) [p0,p1]=gO L p0 p1:=by kernel_rfl
theorem eq_86(L:bk)(p0:PV):aM (S.env L KH cd 86 Tryz.f86) [p0]=qX L p0:=by kernel_rfl
theorem eq_72(L:bk)(p0 p1:PV):aM (S.env L KI cd 72 Tryz.f72) [p0,p1]=wM L p0 p1:=by kernel_rfl
theorem eq_70(L:bk)(p0:PV):aM (S.env L KJ cd 70 Tryz.f70) [p0]=sL L p0:=by kernel_rfl
theorem eq_38(L:bk)(p0:PV):aM (S.env L KK cd 38 Tryz.f38) [p0]=uj L p0:=by kernel_rfl
theorem eq_36(L:bk)(p0 p1:PV):aM (S.env L KL cd 36 Tryz.f36) [p0,p1]=pf L p0 p1:=by kernel_rfl
theorem eq_66(L:bk)(p0 p1 p2:PV):aM (S.env L KM cd 66 Tryz.f66) [p0,p1,p2]=uk L p0 p1 p2:=by kernel_rfl
theorem eq_30(L:bk)(p0:PV):aM (S.env L KN cd 30 Tryz.f30) [p0]=uo L p0:=by kernel_rfl
theorem eq_16(L:bk)(p0 p1:PV):aM (S.env L KO cd 16 Tryz.f16) [p0,p1]=uq L p0 p1:=by kernel_rfl
end Go.Proofs.YtcmhmlnkhmefbaaGreat
