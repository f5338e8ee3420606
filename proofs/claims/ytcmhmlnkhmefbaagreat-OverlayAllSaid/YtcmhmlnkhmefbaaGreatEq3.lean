import Derived.Test.YtcmhmlnkhmefbaaGreatTab
namespace Go.Proofs.YtcmhmlnkhmefbaaGreat
open Go.Ab
set_option maxRecDepth 1000000
theorem eq_100(L:bk)(p0 p1:PV):aL (S0.env L Tf bR 100 Tryz.f100) [p0,p1]=ky L p0 p1:=by kernel_rfl
theorem eq_90(L:bk)(p0 p1 p2 p3 p4:PV):aL (S.env L Tg bR 90 Tryz.f90) [p0,p1,p2,p3,p4]=CE L p0 p1 p2 p3 p4:=by kernel_rfl
theorem eq_50(L:bk)(p0:PV):aL (S.env L K4 bR 50 Tryz.f50) [p0]=wN L p0:=by kernel_rfl
theorem eq_52(L:bk)(p0:PV):aL (S.env L K5 bR 52 Tryz.f52) [p0]=sM L p0:=by kernel_rfl
theorem eq_78(L:bk)(p0 p1:PV):aL (S.env L K6 bR 78 Tryz.f78) [p0,p1]=pD L p0 p1:=by kernel_rfl
theorem eq_123(L:bk)(p0 p1:PV):aL (S.env L K7 bR 123 Tryz.f123) [p0,p1]=q8 L p0 p1:=by kernel_rfl
theorem eq_108(L:bk)(p0 p1:PV):aL (S.env L K8 bR 108 Tryz.f108) [p0,p1]=kz L p0 p1:=by kernel_rfl
theorem eq_91(L:bk)(p0 p1:PV):aL (S.env L K9 bR 91 Tryz.f91) [p0,p1]=pE L p0 p1:=by kernel_rfl
theorem eq_42(L:bk)(p0:PV):aL (S.env L La bR 42 Tryz.f42) [p0]=q9 L p0:=by kernel_rfl
theorem eq_41(L:bk)(p0:PV):aL (S.env L Lb bR 41 Tryz.f41) [p0]=uv L p0:=by kernel_rfl
theorem eq_57(L:bk)(p0:PV):j3 (S.env L qX Lc 57 Tryz.f57) [p0]=gP L p0:=by kernel_rfl
theorem eq_55(L:bk)(p0:PV):j3 (S.env L qX Ld 55 Tryz.f55) [p0]=lA L p0:=by kernel_rfl
theorem eq_85(L:bk)(p0 c1:PV):aL (S.env L FP bX 85 Tryz.f85) [p0,PV.rp [c1]]=lB L p0 c1:=by kernel_rfl
theorem eq_39(L:bk)(p0 p1:PV):aL (S.env L Le bX 39 Tryz.f39) [p0,p1]=sN L p0 p1:=by kernel_rfl
theorem eq_87(L:bk)(p0 p1 p2:PV):aL (S.env L Lf bX 87 Tryz.f87) [p0,p1,p2]=CF L p0 p1 p2:=by kernel_rfl
theorem eq_96(L:bk)(p0 p1 p2:PV):aL (S.env L Lg bX 96 Tryz.f96) [p0,p1,p2]=pF L p0 p1 p2:=by kernel_rfl
theorem eq_34(L:bk)(p0 p1 p2 p3:PV):aL (S.env L Lh bX 34 Tryz.f34) [p0,p1,p2,p3]=uw L p0 p1 p2 p3:=by kernel_rfl
theorem eq_19(L:bk)(p0:PV):aL (S.env L Li bX 19 Tryz.f19) [p0]=ux L p0:=by kernel_rfl
theorem eq_14(L:bk)(p0:PV):aL (S.env L Lj bX 14 Tryz.f14) [p0]=re L p0:=by kernel_rfl
theorem eq_17(L:bk)(p0 p1:PV):aL (S.env L Lk bX 17 Tryz.f17) [p0,p1]=nh L p0 p1:=by kernel_rfl
theorem eq_33(L:bk)(p0 p1 p2:PV):aL (S.env L Ll bX 33 Tryz.f33) [p0,p1,p2]=nK L p0 p1 p2:=by kernel_rfl
theorem eq_32(L:bk)(p0:PV):j3 (S.env L FQ bX 32 Tryz.f32) [p0]=wO L p0:=by kernel_rfl
theorem eq_6(L:bk)(p0 p1:PV):aL (S.env L Ln bX 6 Tryz.f6) [p0,p1]=mB L p0 p1:=by kernel_rfl
end Go.Proofs.YtcmhmlnkhmefbaaGreat
