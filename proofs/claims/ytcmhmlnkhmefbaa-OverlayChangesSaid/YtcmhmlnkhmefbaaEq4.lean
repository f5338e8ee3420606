import Derived.Test.YtcmhmlnkhmefbaaTab
namespace Go.Proofs.Ytcmhmlnkhmefbaa
open Go.Ab
set_option maxRecDepth 1000000
theorem eq_9(L:cp)(p0 p1:PV):aS (S.env L Js bD 9 Try.f9) [p0,p1]=w7 L p0 p1:=by kernel_rfl
theorem eq_46(L:cp)(p0 p1 p2 p3:PV):aS (S.env L NX bD 46 Try.f46) [p0,p1,p2,p3]=tz L p0 p1 p2 p3:=by kernel_rfl
theorem eq_31(L:cp)(p0:PV):aS (S.env L GX bD 31 Try.f31) [p0]=rq L p0:=by kernel_rfl
theorem eq_17(L:cp)(p0:PV):aS (S.env L GY bD 17 Try.f17) [p0]=k9 L p0:=by kernel_rfl
theorem eq_27(L:cp)(p0:PV):aS (S.env L GZ bD 27 Try.f27) [p0]=jn L p0:=by kernel_rfl
theorem eq_95(L:cp)(UT UU p1 p2:PV):aS (S.env L G0 bD 95 Try.f95) [PV.rp [PV.fn 87 [],UT,UU],p1,p2]=dV L UT UU p1 p2:=by kernel_rfl
theorem eq_67(L:cp)(p0 p1:PV):aS (S.env L G1 bD 67 Try.f67) [p0,p1]=pI L p0 p1:=by kernel_rfl
theorem eq_50(L:cp)(p0 p1:PV):aS (S.env L G2 bD 50 Try.f50) [p0,p1]=j5 L p0 p1:=by kernel_rfl
theorem eq_49(L:cp)(p0 p1 p2:PV):aS (S.env L G3 bD 49 Try.f49) [p0,p1,p2]=mV L p0 p1 p2:=by kernel_rfl
theorem eq_22(L:cp)(p0:PV):aS (S.env L G4 bD 22 Try.f22) [p0]=tA L p0:=by kernel_rfl
theorem eq_38(L:cp)(p0:PV):jL (S.env L ot G5 38 Try.f38) [p0]=jo L p0:=by kernel_rfl
theorem eq_35(L:cp)(p0:PV):jL (S.env L ot G6 35 Try.f35) [p0]=jq L p0:=by kernel_rfl
theorem eq_13(L:cp)(p0 p1:PV):aS (S.env L G7 jX 13 Try.f13) [p0,p1]=rr L p0 p1:=by kernel_rfl
theorem eq_6(L:cp)(p0 p1:PV):aS (S.env L G8 jX 6 Try.f6) [p0,p1]=iZ L p0 p1:=by kernel_rfl
theorem eq_15(L:cp)(p0 p1:PV):aS (S.env L G9 jX 15 Try.f15) [p0,p1]=mW L p0 p1:=by kernel_rfl
end Go.Proofs.Ytcmhmlnkhmefbaa
