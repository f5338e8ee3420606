import Derived.Test.YtcmhmlnkhmefbaaGreatTab
namespace Go.Proofs.YtcmhmlnkhmefbaaGreat
open Go.Ab
set_option maxRecDepth 1000000
theorem eq_100(L:bL)(p0 p1:PV):aR (S0.env L QN bR 100 Tryz.f100) [p0,p1]=jW L p0 p1:=by kernel_rfl
theorem eq_90(L:bL)(p0 p1 p2 p3 p4:PV):aR (S.env L QO bR 90 Tryz.f90) [p0,p1,p2,p3,p4]=Bv L p0 p1 p2 p3 p4:=by kernel_rfl
theorem eq_50(L:bL)(p0:PV):aR (S.env L Ji bR 50 Tryz.f50) [p0]=vD L p0:=by kernel_rfl
theorem eq_52(L:bL)(p0:PV):aR (S.env L Jj bR 52 Tryz.f52) [p0]=rC L p0:=by kernel_rfl
theorem eq_78(L:bL)(p0 p1:PV):aR (S.env L Jk bR 78 Tryz.f78) [p0,p1]=ow L p0 p1:=by kernel_rfl
theorem eq_123(L:bL)(p0 p1:PV):aR (S.env L Jl bR 123 Tryz.f123) [p0,p1]=qe L p0 p1:=by kernel_rfl
theorem eq_108(L:bL)(p0 p1:PV):aR (S.env L Jm bR 108 Tryz.f108) [p0,p1]=jX L p0 p1:=by kernel_rfl
theorem eq_91(L:bL)(p0 p1:PV):aR (S.env L Jn bR 91 Tryz.f91) [p0,p1]=oz L p0 p1:=by kernel_rfl
theorem eq_42(L:bL)(p0:PV):aR (S.env L Jo bR 42 Tryz.f42) [p0]=qf L p0:=by kernel_rfl
theorem eq_41(L:bL)(p0:PV):aR (S.env L Jp bR 41 Tryz.f41) [p0]=tq L p0:=by kernel_rfl
theorem eq_57(L:bL)(p0:PV):kC (S.env L pX Jq 57 Tryz.f57) [p0]=gB L p0:=by kernel_rfl
theorem eq_55(L:bL)(p0:PV):kC (S.env L pX Jr 55 Tryz.f55) [p0]=kS L p0:=by kernel_rfl
theorem eq_85(L:bL)(p0 c1:PV):aR (S.env L Eg eL 85 Tryz.f85) [p0,PV.rp [c1]]=kT L p0 c1:=by kernel_rfl
theorem eq_39(L:bL)(p0 p1:PV):aR (S.env L Js eL 39 Tryz.f39) [p0,p1]=rD L p0 p1:=by kernel_rfl
theorem eq_87(L:bL)(p0 p1 p2:PV):aR (S.env L Jt eL 87 Tryz.f87) [p0,p1,p2]=Bw L p0 p1 p2:=by kernel_rfl
theorem eq_96(L:bL)(p0 p1 p2:PV):aR (S.env L Ju eL 96 Tryz.f96) [p0,p1,p2]=oA L p0 p1 p2:=by kernel_rfl
theorem eq_34(L:bL)(p0 p1 p2 p3:PV):aR (S.env L Jv eL 34 Tryz.f34) [p0,p1,p2,p3]=tr L p0 p1 p2 p3:=by kernel_rfl
theorem eq_19(L:bL)(p0:PV):aR (S.env L Jw eL 19 Tryz.f19) [p0]=tt L p0:=by kernel_rfl
end Go.Proofs.YtcmhmlnkhmefbaaGreat
