import Derived.Test.YtcmhmlnkhmefbaaGreatTab
namespace Go.Proofs.YtcmhmlnkhmefbaaGreat
open Go.Ab
set_option maxRecDepth 1000000
theorem eq_24(L:bk)(p0 p1:PV):aL (S.env L Ow bR 24 Tryz.f24) [p0,p1]=Ah L p0 p1:=by kernel_rfl
theorem eq_77(L:bk)(p0 p1 p2 p3:PV):aL (S.env L Th bR 77 Tryz.f77) [p0,p1,p2,p3]=wP L p0 p1 p2 p3:=by kernel_rfl
theorem eq_49(L:bk)(p0:PV):aL (S.env L Lo bR 49 Tryz.f49) [p0]=uy L p0:=by kernel_rfl
theorem eq_27(L:bk)(p0:PV):aL (S.env L Lp bR 27 Tryz.f27) [p0]=mR L p0:=by kernel_rfl
theorem eq_45(L:bk)(p0:PV):aL (S.env L Lq bR 45 Tryz.f45) [p0]=kA L p0:=by kernel_rfl
theorem eq_131(L:bk)(Zw Zx p1 p2:PV):aL (S.env L Lr bR 131 Tryz.f131) [PV.rp [PV.fn 123 [],Zw,Zx],p1,p2]=eh L Zw Zx p1 p2:=by kernel_rfl
theorem eq_103(L:bk)(p0 p1:PV):aL (S.env L Lt bR 103 Tryz.f103) [p0,p1]=sO L p0 p1:=by kernel_rfl
theorem eq_81(L:bk)(p0 p1:PV):aL (S.env L Lu bR 81 Tryz.f81) [p0,p1]=lC L p0 p1:=by kernel_rfl
theorem eq_80(L:bk)(p0 p1 p2:PV):aL (S.env L Lv bR 80 Tryz.f80) [p0,p1,p2]=pG L p0 p1 p2:=by kernel_rfl
theorem eq_40(L:bk)(p0:PV):aL (S.env L Lw bR 40 Tryz.f40) [p0]=wQ L p0:=by kernel_rfl
theorem eq_56(L:bk)(p0:PV):j3 (S.env L qX Lx 56 Tryz.f56) [p0]=kB L p0:=by kernel_rfl
theorem eq_53(L:bk)(p0:PV):j3 (S.env L qX Ly 53 Tryz.f53) [p0]=kC L p0:=by kernel_rfl
theorem eq_20(L:bk)(p0 p1:PV):aL (S.env L Lz bX 20 Tryz.f20) [p0,p1]=uz L p0 p1:=by kernel_rfl
theorem eq_22(L:bk)(p0 p1:PV):aL (S.env L LA bX 22 Tryz.f22) [p0,p1]=j7 L p0 p1:=by kernel_rfl
theorem eq_74(L:bk)(p0:PV):aL (S.env L LB bX 74 Tryz.f74) [p0]=uA L p0:=by kernel_rfl
theorem eq_89(L:bk)(p0 p1:PV):aL (S.env L LC bX 89 Tryz.f89) [p0,p1]=sP L p0 p1:=by kernel_rfl
theorem eq_71(L:bk)(p0 p1:PV):aL (S.env L LD bX 71 Tryz.f71) [p0,p1]=za L p0 p1:=by kernel_rfl
theorem eq_10(L:bk)(p0:PV):aL (S.env L LF bX 10 Tryz.f10) [p0]=uB L p0:=by kernel_rfl
theorem eq_37(L:bk)(p0 p1:PV):aL (S.env L LG bX 37 Tryz.f37) [p0,p1]=nL L p0 p1:=by kernel_rfl
theorem eq_67(L:bk)(p0:PV):aL (S.env L LH bX 67 Tryz.f67) [p0]=uD L p0:=by kernel_rfl
theorem eq_63(L:bk)(p0:PV):aL (S.env L LI bX 63 Tryz.f63) [p0]=wR L p0:=by kernel_rfl
theorem eq_31(L:bk)(p0 p1:PV):aL (S.env L FQ HP 31 Tryz.f31) [p0,p1]=uE L p0 p1:=by kernel_rfl
end Go.Proofs.YtcmhmlnkhmefbaaGreat
