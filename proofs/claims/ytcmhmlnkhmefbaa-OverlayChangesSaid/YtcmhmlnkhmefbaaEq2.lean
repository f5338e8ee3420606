import Derived.Test.YtcmhmlnkhmefbaaTab
namespace Go.Proofs.Ytcmhmlnkhmefbaa
open Go.Ab
set_option maxRecDepth 1000000
theorem eq_65(L:cp)(p0:PV):aS (S0.env L NS bD 65 Try.f65) [p0]=tw L p0:=by kernel_rfl
theorem eq_8(L:cp):aS (S.env L NT bD 8 Try.f8) []=sU L:=by kernel_rfl
theorem eq_58(L:cp)(p0:PV):aS (S.env L NU bD 58 Try.f58) [p0]=ov L p0:=by kernel_rfl
theorem eq_33(L:cp)(p0 p1:PV):aS (S.env L Gy bD 33 Try.f33) [p0,p1]=jY L p0 p1:=by kernel_rfl
theorem eq_25(L:cp)(p0 p1 p2:PV):aS (S.env L Gz bD 25 Try.f25) [p0,p1,p2]=zy L p0 p1 p2:=by kernel_rfl
theorem eq_71(L:cp)(p0 p1 p2:PV):aS (S.env L GA bD 71 Try.f71) [p0,p1,p2]=mS L p0 p1 p2:=by kernel_rfl
theorem eq_73(L:cp)(p0:PV):aS (S.env L GB bD 73 Try.f73) [p0]=kL L p0:=by kernel_rfl
theorem eq_57(L:cp)(p0 p1:PV):aS (S.env L GC bD 57 Try.f57) [p0,p1]=kM L p0 p1:=by kernel_rfl
theorem eq_26(L:cp)(p0:PV):aS (S.env L GD bD 26 Try.f26) [p0]=jZ L p0:=by kernel_rfl
theorem eq_45(L:cp)(p0:PV):aS (S.env L GF bD 45 Try.f45) [p0]=ri L p0:=by kernel_rfl
theorem eq_40(L:cp)(p0:PV):jL (S.env L ot bD 40 Try.f40) [p0]=jk L p0:=by kernel_rfl
theorem eq_36(L:cp)(p0:PV):jL (S.env L ot GG 36 Try.f36) [p0]=iG L p0:=by kernel_rfl
theorem eq_51(L:cp)(p0:PV):jL (S.env L CJ CH 51 Try.f51) [p0]=ow L p0:=by kernel_rfl
theorem eq_20(L:cp)(p0 p1:PV):aS (S.env L GH jX 20 Try.f20) [p0,p1]=gd L p0 p1:=by kernel_rfl
theorem eq_4(L:cp)(p0:PV):aS (S.env L GI jX 4 Try.f4) [p0]=rj L p0:=by kernel_rfl
theorem eq_3(L:cp)(p0 p1:PV):aS (S.env L GJ jX 3 Try.f3) [p0,p1]=gY L p0 p1:=by kernel_rfl
end Go.Proofs.Ytcmhmlnkhmefbaa
