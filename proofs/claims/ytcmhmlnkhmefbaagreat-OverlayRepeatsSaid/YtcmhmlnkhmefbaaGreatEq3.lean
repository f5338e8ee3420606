import Derived.Test.YtcmhmlnkhmefbaaGreatTab
namespace Go.Proofs.YtcmhmlnkhmefbaaGreat
open Go.Ab
set_option maxRecDepth 1000000
theorem eq_100(L:bB)(p0 p1:PV):aQ (S0.env L RI bS 100 Tryz.f100) [p0,p1]=j9 L p0 p1:=by kernel_rfl
theorem eq_90(L:bB)(p0 p1 p2 p3 p4:PV):aQ (S.env L RJ bS 90 Tryz.f90) [p0,p1,p2,p3,p4]=B8 L p0 p1 p2 p3 p4:=by kernel_rfl
theorem eq_50(L:bB)(p0:PV):aQ (S.env L JS bS 50 Tryz.f50) [p0]=wh L p0:=by kernel_rfl
theorem eq_52(L:bB)(p0:PV):aQ (S.env L JT bS 52 Tryz.f52) [p0]=so L p0:=by kernel_rfl
theorem eq_78(L:bB)(p0 p1:PV):aQ (S.env L JU bS 78 Tryz.f78) [p0,p1]=oQ L p0 p1:=by kernel_rfl
theorem eq_123(L:bB)(p0 p1:PV):aQ (S.env L JV bS 123 Tryz.f123) [p0,p1]=qE L p0 p1:=by kernel_rfl
theorem eq_108(L:bB)(p0 p1:PV):aQ (S.env L JW bS 108 Tryz.f108) [p0,p1]=kc L p0 p1:=by kernel_rfl
theorem eq_91(L:bB)(p0 p1:PV):aQ (S.env L JX bS 91 Tryz.f91) [p0,p1]=oR L p0 p1:=by kernel_rfl
theorem eq_42(L:bB)(p0:PV):aQ (S.env L JY bS 42 Tryz.f42) [p0]=qF L p0:=by kernel_rfl
theorem eq_41(L:bB)(p0:PV):aQ (S.env L JZ bS 41 Tryz.f41) [p0]=tT L p0:=by kernel_rfl
theorem eq_57(L:bB)(p0:PV):kN (S.env L qA J0 57 Tryz.f57) [p0]=gM L p0:=by kernel_rfl
theorem eq_55(L:bB)(p0:PV):kN (S.env L qA J1 55 Tryz.f55) [p0]=la L p0:=by kernel_rfl
theorem eq_85(L:bB)(p0 c1:PV):aQ (S.env L EO dK 85 Tryz.f85) [p0,PV.rp [c1]]=lb L p0 c1:=by kernel_rfl
theorem eq_39(L:bB)(p0 p1:PV):aQ (S.env L J2 dK 39 Tryz.f39) [p0,p1]=sq L p0 p1:=by kernel_rfl
theorem eq_87(L:bB)(p0 p1 p2:PV):aQ (S.env L J3 dK 87 Tryz.f87) [p0,p1,p2]=B9 L p0 p1 p2:=by kernel_rfl
theorem eq_96(L:bB)(p0 p1 p2:PV):aQ (S.env L J4 dK 96 Tryz.f96) [p0,p1,p2]=oS L p0 p1 p2:=by kernel_rfl
theorem eq_34(L:bB)(p0 p1 p2 p3:PV):aQ (S.env L J5 dK 34 Tryz.f34) [p0,p1,p2,p3]=tU L p0 p1 p2 p3:=by kernel_rfl
theorem eq_19(L:bB)(p0:PV):aQ (S.env L J6 dK 19 Tryz.f19) [p0]=tV L p0:=by kernel_rfl
theorem eq_14(L:bB)(p0:PV):aQ (S.env L J7 dK 14 Tryz.f14) [p0]=qG L p0:=by kernel_rfl
theorem eq_17(L:bB)(p0 p1:PV):aQ (S.env L J8 dK 17 Tryz.f17) [p0,p1]=mK L p0 p1:=by kernel_rfl
end Go.Proofs.YtcmhmlnkhmefbaaGreat
