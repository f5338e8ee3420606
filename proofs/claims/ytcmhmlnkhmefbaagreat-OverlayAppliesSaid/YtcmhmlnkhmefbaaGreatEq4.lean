import Derived.Test.YtcmhmlnkhmefbaaGreatTab
namespace Go.Proofs.YtcmhmlnkhmefbaaGreat
open Go.Ab
set_option maxRecDepth 1000000
theorem eq_24(L:bk)(p0 p1:PV):aM (S.env L Oa bR 24 Tryz.f24) [p0,p1]=Am L p0 p1:=by kernel_rfl
theorem eq_77(L:bk)(p0 p1 p2 p3:PV):aM (S.env L SV bR 77 Tryz.f77) [p0,p1,p2,p3]=wP L p0 p1 p2 p3:=by kernel_rfl
theorem eq_49(L:bk)(p0:PV):aM (S.env L K9 bR 49 Tryz.f49) [p0]=uw L p0:=by kernel_rfl
theorem eq_27(L:bk)(p0:PV):aM (S.env L La bR 27 Tryz.f27) [p0]=mO L p0:=by kernel_rfl
theorem eq_45(L:bk)(p0:PV):aM (S.env L Lb bR 45 Tryz.f45) [p0]=kA L p0:=by kernel_rfl
theorem eq_131(L:bk)(Zd Ze p1 p2:PV):aM (S.env L Lc bR 131 Tryz.f131) [PV.rp [PV.fn 123 [],Zd,Ze],p1,p2]=eh L Zd Ze p1 p2:=by kernel_rfl
theorem eq_103(L:bk)(p0 p1:PV):aM (S.env L Ld bR 103 Tryz.f103) [p0,p1]=sO L p0 p1:=by kernel_rfl
theorem eq_81(L:bk)(p0 p1:PV):aM (S.env L Le bR 81 Tryz.f81) [p0,p1]=lC L p0 p1:=by kernel_rfl
theorem eq_80(L:bk)(p0 p1 p2:PV):aM (S.env L Lf bR 80 Tryz.f80) [p0,p1,p2]=pn L p0 p1 p2:=by kernel_rfl
theorem eq_40(L:bk)(p0:PV):aM (S.env L Lg bR 40 Tryz.f40) [p0]=wQ L p0:=by kernel_rfl
theorem eq_56(L:bk)(p0:PV):jZ (S.env L qT Lh 56 Tryz.f56) [p0]=kB L p0:=by kernel_rfl
theorem eq_53(L:bk)(p0:PV):jZ (S.env L qT Li 53 Tryz.f53) [p0]=kC L p0:=by kernel_rfl
theorem eq_20(L:bk)(p0 p1:PV):aM (S.env L Lj cd 20 Tryz.f20) [p0,p1]=ux L p0 p1:=by kernel_rfl
theorem eq_22(L:bk)(p0 p1:PV):aM (S.env L Lk cd 22 Tryz.f22) [p0,p1]=j7 L p0 p1:=by kernel_rfl
theorem eq_74(L:bk)(p0:PV):aM (S.env L Ll cd 74 Tryz.f74) [p0]=uy L p0:=by kernel_rfl
theorem eq_89(L:bk)(p0 p1:PV):aM (S.env L Ln cd 89 Tryz.f89) [p0,p1]=sP L p0 p1:=by kernel_rfl
theorem eq_71(L:bk)(p0 p1:PV):aM (S.env L Lo cd 71 Tryz.f71) [p0,p1]=y7 L p0 p1:=by kernel_rfl
theorem eq_10(L:bk)(p0:PV):aM (S.env L Lp cd 10 Tryz.f10) [p0]=uz L p0:=by kernel_rfl
theorem eq_37(L:bk)(p0 p1:PV):aM (S.env L Lq cd 37 Tryz.f37) [p0,p1]=nG L p0 p1:=by kernel_rfl
theorem eq_67(L:bk)(p0:PV):aM (S.env L Lr cd 67 Tryz.f67) [p0]=uA L p0:=by kernel_rfl
theorem eq_63(L:bk)(p0:PV):aM (S.env L Lt cd 63 Tryz.f63) [p0]=wR L p0:=by kernel_rfl
theorem eq_31(L:bk)(p0 p1:PV):aM (S.env L FD HA 31 Tryz.f31) [p0,p1]=uB L p0 p1:=by kernel_rfl
end Go.Proofs.YtcmhmlnkhmefbaaGreat
