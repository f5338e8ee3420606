import Derived.Test.YtcmhmlnkhmefbaaGreatTab
namespace Go.Proofs.YtcmhmlnkhmefbaaGreat
open Go.Ab
set_option maxRecDepth 1000000
theorem eq_100(L:bx)(p0 p1:PV):aQ (S0.env L Rx bS 100 Tryz.f100) [p0,p1]=j9 L p0 p1:=by kernel_rfl
theorem eq_90(L:bx)(p0 p1 p2 p3 p4:PV):aQ (S.env L Ry bS 90 Tryz.f90) [p0,p1,p2,p3,p4]=B0 L p0 p1 p2 p3 p4:=by kernel_rfl
theorem eq_50(L:bx)(p0:PV):aQ (S.env L JK bS 50 Tryz.f50) [p0]=v8 L p0:=by kernel_rfl
theorem eq_52(L:bx)(p0:PV):aQ (S.env L JL bS 52 Tryz.f52) [p0]=sj L p0:=by kernel_rfl
theorem eq_78(L:bx)(p0 p1:PV):aQ (S.env L JM bS 78 Tryz.f78) [p0,p1]=oO L p0 p1:=by kernel_rfl
theorem eq_123(L:bx)(p0 p1:PV):aQ (S.env L JN bS 123 Tryz.f123) [p0,p1]=qC L p0 p1:=by kernel_rfl
theorem eq_108(L:bx)(p0 p1:PV):aQ (S.env L JO bS 108 Tryz.f108) [p0,p1]=kc L p0 p1:=by kernel_rfl
theorem eq_91(L:bx)(p0 p1:PV):aQ (S.env L JP bS 91 Tryz.f91) [p0,p1]=oP L p0 p1:=by kernel_rfl
theorem eq_42(L:bx)(p0:PV):aQ (S.env L JQ bS 42 Tryz.f42) [p0]=qD L p0:=by kernel_rfl
theorem eq_41(L:bx)(p0:PV):aQ (S.env L JR bS 41 Tryz.f41) [p0]=tN L p0:=by kernel_rfl
theorem eq_57(L:bx)(p0:PV):kO (S.env L qy JS 57 Tryz.f57) [p0]=gL L p0:=by kernel_rfl
theorem eq_55(L:bx)(p0:PV):kO (S.env L qy JT 55 Tryz.f55) [p0]=lb L p0:=by kernel_rfl
theorem eq_85(L:bx)(p0 c1:PV):aQ (S.env L EH dI 85 Tryz.f85) [p0,PV.rp [c1]]=lf L p0 c1:=by kernel_rfl
theorem eq_39(L:bx)(p0 p1:PV):aQ (S.env L JU dI 39 Tryz.f39) [p0,p1]=sk L p0 p1:=by kernel_rfl
theorem eq_87(L:bx)(p0 p1 p2:PV):aQ (S.env L JV dI 87 Tryz.f87) [p0,p1,p2]=B1 L p0 p1 p2:=by kernel_rfl
theorem eq_96(L:bx)(p0 p1 p2:PV):aQ (S.env L JW dI 96 Tryz.f96) [p0,p1,p2]=oQ L p0 p1 p2:=by kernel_rfl
theorem eq_34(L:bx)(p0 p1 p2 p3:PV):aQ (S.env L JX dI 34 Tryz.f34) [p0,p1,p2,p3]=tO L p0 p1 p2 p3:=by kernel_rfl
theorem eq_19(L:bx)(p0:PV):aQ (S.env L JY dI 19 Tryz.f19) [p0]=tP L p0:=by kernel_rfl
theorem eq_14(L:bx)(p0:PV):aQ (S.env L JZ dI 14 Tryz.f14) [p0]=qE L p0:=by kernel_rfl
theorem eq_17(L:bx)(p0 p1:PV):aQ (S.env L J0 dI 17 Tryz.f17) [p0,p1]=mL L p0 p1:=by kernel_rfl
end Go.Proofs.YtcmhmlnkhmefbaaGreat
