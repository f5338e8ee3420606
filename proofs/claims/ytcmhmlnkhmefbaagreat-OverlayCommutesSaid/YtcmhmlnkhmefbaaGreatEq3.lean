import Derived.Test.YtcmhmlnkhmefbaaGreatTab
namespace Go.Proofs.YtcmhmlnkhmefbaaGreat
open Go.Ab
set_option maxRecDepth 1000000
theorem eq_100(L:bA)(p0 p1:PV):aP (S0.env L RO bS 100 Tryz.f100) [p0,p1]=j6 L p0 p1:=by kernel_rfl
theorem eq_90(L:bA)(p0 p1 p2 p3 p4:PV):aP (S.env L RP bS 90 Tryz.f90) [p0,p1,p2,p3,p4]=B4 L p0 p1 p2 p3 p4:=by kernel_rfl
theorem eq_50(L:bA)(p0:PV):aP (S.env L J3 bS 50 Tryz.f50) [p0]=wa L p0:=by kernel_rfl
theorem eq_52(L:bA)(p0:PV):aP (S.env L J4 bS 52 Tryz.f52) [p0]=sj L p0:=by kernel_rfl
theorem eq_78(L:bA)(p0 p1:PV):aP (S.env L J5 bS 78 Tryz.f78) [p0,p1]=oO L p0 p1:=by kernel_rfl
theorem eq_123(L:bA)(p0 p1:PV):aP (S.env L J6 bS 123 Tryz.f123) [p0,p1]=qD L p0 p1:=by kernel_rfl
theorem eq_108(L:bA)(p0 p1:PV):aP (S.env L J7 bS 108 Tryz.f108) [p0,p1]=j7 L p0 p1:=by kernel_rfl
theorem eq_91(L:bA)(p0 p1:PV):aP (S.env L J8 bS 91 Tryz.f91) [p0,p1]=oP L p0 p1:=by kernel_rfl
theorem eq_42(L:bA)(p0:PV):aP (S.env L J9 bS 42 Tryz.f42) [p0]=qE L p0:=by kernel_rfl
theorem eq_41(L:bA)(p0:PV):aP (S.env L Ka bS 41 Tryz.f41) [p0]=tO L p0:=by kernel_rfl
theorem eq_57(L:bA)(p0:PV):kL (S.env L qz Kb 57 Tryz.f57) [p0]=gM L p0:=by kernel_rfl
theorem eq_55(L:bA)(p0:PV):kL (S.env L qz Kc 55 Tryz.f55) [p0]=k8 L p0:=by kernel_rfl
theorem eq_85(L:bA)(p0 c1:PV):aP (S.env L ER dJ 85 Tryz.f85) [p0,PV.rp [c1]]=k9 L p0 c1:=by kernel_rfl
theorem eq_39(L:bA)(p0 p1:PV):aP (S.env L Ke dJ 39 Tryz.f39) [p0,p1]=sk L p0 p1:=by kernel_rfl
theorem eq_87(L:bA)(p0 p1 p2:PV):aP (S.env L Kf dJ 87 Tryz.f87) [p0,p1,p2]=B5 L p0 p1 p2:=by kernel_rfl
theorem eq_96(L:bA)(p0 p1 p2:PV):aP (S.env L Kg dJ 96 Tryz.f96) [p0,p1,p2]=oQ L p0 p1 p2:=by kernel_rfl
theorem eq_34(L:bA)(p0 p1 p2 p3:PV):aP (S.env L Kh dJ 34 Tryz.f34) [p0,p1,p2,p3]=tP L p0 p1 p2 p3:=by kernel_rfl
theorem eq_19(L:bA)(p0:PV):aP (S.env L Ki dJ 19 Tryz.f19) [p0]=tQ L p0:=by kernel_rfl
theorem eq_14(L:bA)(p0:PV):aP (S.env L Kj dJ 14 Tryz.f14) [p0]=qF L p0:=by kernel_rfl
theorem eq_17(L:bA)(p0 p1:PV):aP (S.env L Kk dJ 17 Tryz.f17) [p0,p1]=mJ L p0 p1:=by kernel_rfl
end Go.Proofs.YtcmhmlnkhmefbaaGreat
