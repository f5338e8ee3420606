import Derived.Test.YtcmhmlnkhmefbaaTab
namespace Go.Proofs.Ytcmhmlnkhmefbaa
open Go.Ab
set_option maxRecDepth 1000000
theorem eq_64(L:cp)(p0 p1:PV):aS (S0.env L NV bD 64 Try.f64) [p0,p1]=jl L p0 p1:=by kernel_rfl
theorem eq_55(L:cp)(p0 p1 p2 p3 p4:PV):aS (S.env L NW bD 55 Try.f55) [p0,p1,p2,p3,p4]=zz L p0 p1 p2 p3 p4:=by kernel_rfl
theorem eq_32(L:cp)(p0:PV):aS (S.env L GK bD 32 Try.f32) [p0]=tx L p0:=by kernel_rfl
theorem eq_34(L:cp)(p0:PV):aS (S.env L GL bD 34 Try.f34) [p0]=pG L p0:=by kernel_rfl
theorem eq_47(L:cp)(p0 p1:PV):aS (S.env L GM bD 47 Try.f47) [p0,p1]=mT L p0 p1:=by kernel_rfl
theorem eq_87(L:cp)(p0 p1:PV):aS (S.env L GN bD 87 Try.f87) [p0,p1]=oz L p0 p1:=by kernel_rfl
theorem eq_72(L:cp)(p0 p1:PV):aS (S.env L GO bD 72 Try.f72) [p0,p1]=jm L p0 p1:=by kernel_rfl
theorem eq_56(L:cp)(p0 p1:PV):aS (S.env L GP bD 56 Try.f56) [p0,p1]=mU L p0 p1:=by kernel_rfl
theorem eq_24(L:cp)(p0:PV):aS (S.env L GQ bD 24 Try.f24) [p0]=oA L p0:=by kernel_rfl
theorem eq_23(L:cp)(p0:PV):aS (S.env L GR bD 23 Try.f23) [p0]=rn L p0:=by kernel_rfl
theorem eq_39(L:cp)(p0:PV):jL (S.env L ot GS 39 Try.f39) [p0]=gf L p0:=by kernel_rfl
theorem eq_37(L:cp)(p0:PV):jL (S.env L ot GU 37 Try.f37) [p0]=j3 L p0:=by kernel_rfl
theorem eq_54(L:cp)(p0 c1:PV):aS (S.env L CJ jX 54 Try.f54) [p0,PV.rp [c1]]=j4 L p0 c1:=by kernel_rfl
theorem eq_14(L:cp)(p0 p1:PV):aS (S.env L GV jX 14 Try.f14) [p0,p1]=pH L p0 p1:=by kernel_rfl
theorem eq_21(L:cp)(p0 p1:PV):aS (S.env L GW jX 21 Try.f21) [p0,p1]=lN L p0 p1:=by kernel_rfl
end Go.Proofs.Ytcmhmlnkhmefbaa
