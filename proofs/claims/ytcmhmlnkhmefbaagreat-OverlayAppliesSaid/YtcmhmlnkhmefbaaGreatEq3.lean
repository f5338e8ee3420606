import Derived.Test.YtcmhmlnkhmefbaaGreatTab
namespace Go.Proofs.YtcmhmlnkhmefbaaGreat
open Go.Ab
set_option maxRecDepth 1000000
theorem eq_100(L:bk)(p0 p1:PV):aM (S0.env L SS bR 100 Tryz.f100) [p0,p1]=ky L p0 p1:=by kernel_rfl
theorem eq_90(L:bk)(p0 p1 p2 p3 p4:PV):aM (S.env L SU bR 90 Tryz.f90) [p0,p1,p2,p3,p4]=CA L p0 p1 p2 p3 p4:=by kernel_rfl
theorem eq_50(L:bk)(p0:PV):aM (S.env L KP bR 50 Tryz.f50) [p0]=wN L p0:=by kernel_rfl
theorem eq_52(L:bk)(p0:PV):aM (S.env L KQ bR 52 Tryz.f52) [p0]=sM L p0:=by kernel_rfl
theorem eq_78(L:bk)(p0 p1:PV):aM (S.env L KS bR 78 Tryz.f78) [p0,p1]=pg L p0 p1:=by kernel_rfl
theorem eq_123(L:bk)(p0 p1:PV):aM (S.env L KT bR 123 Tryz.f123) [p0,p1]=qY L p0 p1:=by kernel_rfl
theorem eq_108(L:bk)(p0 p1:PV):aM (S.env L KU bR 108 Tryz.f108) [p0,p1]=kz L p0 p1:=by kernel_rfl
theorem eq_91(L:bk)(p0 p1:PV):aM (S.env L KV bR 91 Tryz.f91) [p0,p1]=pj L p0 p1:=by kernel_rfl
theorem eq_42(L:bk)(p0:PV):aM (S.env L KW bR 42 Tryz.f42) [p0]=qZ L p0:=by kernel_rfl
theorem eq_41(L:bk)(p0:PV):aM (S.env L KX bR 41 Tryz.f41) [p0]=ur L p0:=by kernel_rfl
theorem eq_57(L:bk)(p0:PV):jZ (S.env L qT KY 57 Tryz.f57) [p0]=gP L p0:=by kernel_rfl
theorem eq_55(L:bk)(p0:PV):jZ (S.env L qT KZ 55 Tryz.f55) [p0]=lA L p0:=by kernel_rfl
theorem eq_85(L:bk)(p0 c1:PV):aM (S.env L FC cd 85 Tryz.f85) [p0,PV.rp [c1]]=lB L p0 c1:=by kernel_rfl
theorem eq_39(L:bk)(p0 p1:PV):aM (S.env L K0 cd 39 Tryz.f39) [p0,p1]=sN L p0 p1:=by kernel_rfl
theorem eq_87(L:bk)(p0 p1 p2:PV):aM (S.env L K1 cd 87 Tryz.f87) [p0,p1,p2]=CB L p0 p1 p2:=by kernel_rfl
theorem eq_96(L:bk)(p0 p1 p2:PV):aM (S.env L K2 cd 96 Tryz.f96) [p0,p1,p2]=pk L p0 p1 p2:=by kernel_rfl
theorem eq_34(L:bk)(p0 p1 p2 p3:PV):aM (S.env L K3 cd 34 Tryz.f34) [p0,p1,p2,p3]=uu L p0 p1 p2 p3:=by kernel_rfl
theorem eq_19(L:bk)(p0:PV):aM (S.env L K4 cd 19 Tryz.f19) [p0]=uv L p0:=by kernel_rfl
theorem eq_14(L:bk)(p0:PV):aM (S.env L K5 cd 14 Tryz.f14) [p0]=q6 L p0:=by kernel_rfl
theorem eq_17(L:bk)(p0 p1:PV):aM (S.env L K6 cd 17 Tryz.f17) [p0,p1]=nc L p0 p1:=by kernel_rfl
theorem eq_33(L:bk)(p0 p1 p2:PV):aM (S.env L K7 cd 33 Tryz.f33) [p0,p1,p2]=nF L p0 p1 p2:=by kernel_rfl
theorem eq_32(L:bk)(p0:PV):jZ (S.env L FD cd 32 Tryz.f32) [p0]=wO L p0:=by kernel_rfl
theorem eq_4(L:bk)(p0 p1:PV):aM (S.env L K8 cd 4 Tryz.f4) [p0,p1]=iY L p0 p1:=by kernel_rfl
end Go.Proofs.YtcmhmlnkhmefbaaGreat
