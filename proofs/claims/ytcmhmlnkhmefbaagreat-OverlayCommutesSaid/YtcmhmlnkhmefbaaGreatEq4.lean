import Derived.Test.YtcmhmlnkhmefbaaGreatTab
namespace Go.Proofs.YtcmhmlnkhmefbaaGreat
open Go.Ab
set_option maxRecDepth 1000000
theorem eq_24(L:bA)(p0 p1:PV):aP (S.env L MZ bS 24 Tryz.f24) [p0,p1]=zx L p0 p1:=by kernel_rfl
theorem eq_77(L:bA)(p0 p1 p2 p3:PV):aP (S.env L RQ bS 77 Tryz.f77) [p0,p1,p2,p3]=wb L p0 p1 p2 p3:=by kernel_rfl
theorem eq_49(L:bA)(p0:PV):aP (S.env L Km bS 49 Tryz.f49) [p0]=tR L p0:=by kernel_rfl
theorem eq_27(L:bA)(p0:PV):aP (S.env L Kn bS 27 Tryz.f27) [p0]=mq L p0:=by kernel_rfl
theorem eq_45(L:bA)(p0:PV):aP (S.env L Ko bS 45 Tryz.f45) [p0]=j8 L p0:=by kernel_rfl
theorem eq_131(L:bA)(XP XQ p1 p2:PV):aP (S.env L Kp bS 131 Tryz.f131) [PV.rp [PV.fn 123 [],XP,XQ],p1,p2]=ef L XP XQ p1 p2:=by kernel_rfl
theorem eq_103(L:bA)(p0 p1:PV):aP (S.env L Kq bS 103 Tryz.f103) [p0,p1]=sl L p0 p1:=by kernel_rfl
theorem eq_81(L:bA)(p0 p1:PV):aP (S.env L Kr bS 81 Tryz.f81) [p0,p1]=la L p0 p1:=by kernel_rfl
theorem eq_80(L:bA)(p0 p1 p2:PV):aP (S.env L Ks bS 80 Tryz.f80) [p0,p1,p2]=oR L p0 p1 p2:=by kernel_rfl
theorem eq_40(L:bA)(p0:PV):aP (S.env L Kt bS 40 Tryz.f40) [p0]=we L p0:=by kernel_rfl
theorem eq_56(L:bA)(p0:PV):kL (S.env L qz Ku 56 Tryz.f56) [p0]=j9 L p0:=by kernel_rfl
theorem eq_53(L:bA)(p0:PV):kL (S.env L qz Kv 53 Tryz.f53) [p0]=kc L p0:=by kernel_rfl
theorem eq_20(L:bA)(p0 p1:PV):aP (S.env L Kw dJ 20 Tryz.f20) [p0,p1]=tS L p0 p1:=by kernel_rfl
theorem eq_22(L:bA)(p0 p1:PV):aP (S.env L Kx dJ 22 Tryz.f22) [p0,p1]=jO L p0 p1:=by kernel_rfl
theorem eq_74(L:bA)(p0:PV):aP (S.env L Ky dJ 74 Tryz.f74) [p0]=tT L p0:=by kernel_rfl
theorem eq_89(L:bA)(p0 p1:PV):aP (S.env L Kz dJ 89 Tryz.f89) [p0,p1]=sm L p0 p1:=by kernel_rfl
theorem eq_71(L:bA)(p0 p1:PV):aP (S.env L KA dJ 71 Tryz.f71) [p0,p1]=yz L p0 p1:=by kernel_rfl
theorem eq_10(L:bA)(p0:PV):aP (S.env L KB dJ 10 Tryz.f10) [p0]=tU L p0:=by kernel_rfl
theorem eq_37(L:bA)(p0 p1:PV):aP (S.env L KC dJ 37 Tryz.f37) [p0,p1]=nj L p0 p1:=by kernel_rfl
end Go.Proofs.YtcmhmlnkhmefbaaGreat
