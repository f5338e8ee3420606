import Derived.Test.YtcmhmlnkhmefbaaGreatTab
namespace Go.Proofs.YtcmhmlnkhmefbaaGreat
open Go.Ab
set_option maxRecDepth 1000000
theorem eq_100(L:bC)(p0 p1:PV):aQ (S0.env L RP bU 100 Tryz.f100) [p0,p1]=ke L p0 p1:=by kernel_rfl
theorem eq_90(L:bC)(p0 p1 p2 p3 p4:PV):aQ (S.env L RQ bU 90 Tryz.f90) [p0,p1,p2,p3,p4]=B9 L p0 p1 p2 p3 p4:=by kernel_rfl
theorem eq_50(L:bC)(p0:PV):aQ (S.env L JV bU 50 Tryz.f50) [p0]=wm L p0:=by kernel_rfl
theorem eq_52(L:bC)(p0:PV):aQ (S.env L JW bU 52 Tryz.f52) [p0]=sq L p0:=by kernel_rfl
theorem eq_78(L:bC)(p0 p1:PV):aQ (S.env L JX bU 78 Tryz.f78) [p0,p1]=oR L p0 p1:=by kernel_rfl
theorem eq_123(L:bC)(p0 p1:PV):aQ (S.env L JY bU 123 Tryz.f123) [p0,p1]=qG L p0 p1:=by kernel_rfl
theorem eq_108(L:bC)(p0 p1:PV):aQ (S.env L JZ bU 108 Tryz.f108) [p0,p1]=kg L p0 p1:=by kernel_rfl
theorem eq_91(L:bC)(p0 p1:PV):aQ (S.env L J0 bU 91 Tryz.f91) [p0,p1]=oS L p0 p1:=by kernel_rfl
theorem eq_42(L:bC)(p0:PV):aQ (S.env L J1 bU 42 Tryz.f42) [p0]=qH L p0:=by kernel_rfl
theorem eq_41(L:bC)(p0:PV):aQ (S.env L J2 bU 41 Tryz.f41) [p0]=tU L p0:=by kernel_rfl
theorem eq_57(L:bC)(p0:PV):kQ (S.env L qC J3 57 Tryz.f57) [p0]=gP L p0:=by kernel_rfl
theorem eq_55(L:bC)(p0:PV):kQ (S.env L qC J4 55 Tryz.f55) [p0]=lh L p0:=by kernel_rfl
theorem eq_85(L:bC)(p0 c1:PV):aQ (S.env L ET dM 85 Tryz.f85) [p0,PV.rp [c1]]=lj L p0 c1:=by kernel_rfl
theorem eq_39(L:bC)(p0 p1:PV):aQ (S.env L J5 dM 39 Tryz.f39) [p0,p1]=sr L p0 p1:=by kernel_rfl
theorem eq_87(L:bC)(p0 p1 p2:PV):aQ (S.env L J6 dM 87 Tryz.f87) [p0,p1,p2]=Ca L p0 p1 p2:=by kernel_rfl
theorem eq_96(L:bC)(p0 p1 p2:PV):aQ (S.env L J7 dM 96 Tryz.f96) [p0,p1,p2]=oT L p0 p1 p2:=by kernel_rfl
theorem eq_34(L:bC)(p0 p1 p2 p3:PV):aQ (S.env L J8 dM 34 Tryz.f34) [p0,p1,p2,p3]=tV L p0 p1 p2 p3:=by kernel_rfl
theorem eq_19(L:bC)(p0:PV):aQ (S.env L J9 dM 19 Tryz.f19) [p0]=tW L p0:=by kernel_rfl
theorem eq_14(L:bC)(p0:PV):aQ (S.env L Ka dM 14 Tryz.f14) [p0]=qI L p0:=by kernel_rfl
theorem eq_17(L:bC)(p0 p1:PV):aQ (S.env L Kb dM 17 Tryz.f17) [p0,p1]=mP L p0 p1:=by kernel_rfl
end Go.Proofs.YtcmhmlnkhmefbaaGreat
