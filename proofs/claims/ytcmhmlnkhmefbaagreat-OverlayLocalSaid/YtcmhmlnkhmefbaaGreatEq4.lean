import Derived.Test.YtcmhmlnkhmefbaaGreatTab
namespace Go.Proofs.YtcmhmlnkhmefbaaGreat
open Go.Ab
set_option maxRecDepth 1000000
theorem eq_24(L:bC)(p0 p1:PV):aQ (S.env L MT bU 24 Tryz.f24) [p0,p1]=zF L p0 p1:=by kernel_rfl
theorem eq_77(L:bC)(p0 p1 p2 p3:PV):aQ (S.env L RR bU 77 Tryz.f77) [p0,p1,p2,p3]=wo L p0 p1 p2 p3:=by kernel_rfl
theorem eq_49(L:bC)(p0:PV):aQ (S.env L Kc bU 49 Tryz.f49) [p0]=tX L p0:=by kernel_rfl
theorem eq_27(L:bC)(p0:PV):aQ (S.env L Ke bU 27 Tryz.f27) [p0]=mz L p0:=by kernel_rfl
theorem eq_45(L:bC)(p0:PV):aQ (S.env L Kf bU 45 Tryz.f45) [p0]=kh L p0:=by kernel_rfl
theorem eq_131(L:bC)(XH XI p1 p2:PV):aQ (S.env L Kg bU 131 Tryz.f131) [PV.rp [PV.fn 123 [],XH,XI],p1,p2]=ei L XH XI p1 p2:=by kernel_rfl
theorem eq_103(L:bC)(p0 p1:PV):aQ (S.env L Kh bU 103 Tryz.f103) [p0,p1]=su L p0 p1:=by kernel_rfl
theorem eq_81(L:bC)(p0 p1:PV):aQ (S.env L Ki bU 81 Tryz.f81) [p0,p1]=lk L p0 p1:=by kernel_rfl
theorem eq_80(L:bC)(p0 p1 p2:PV):aQ (S.env L Kj bU 80 Tryz.f80) [p0,p1,p2]=oU L p0 p1 p2:=by kernel_rfl
theorem eq_40(L:bC)(p0:PV):aQ (S.env L Kk bU 40 Tryz.f40) [p0]=wq L p0:=by kernel_rfl
theorem eq_56(L:bC)(p0:PV):kQ (S.env L qC Km 56 Tryz.f56) [p0]=kj L p0:=by kernel_rfl
theorem eq_53(L:bC)(p0:PV):kQ (S.env L qC Kn 53 Tryz.f53) [p0]=kn L p0:=by kernel_rfl
theorem eq_20(L:bC)(p0 p1:PV):aQ (S.env L Ko dM 20 Tryz.f20) [p0,p1]=tY L p0 p1:=by kernel_rfl
theorem eq_22(L:bC)(p0 p1:PV):aQ (S.env L Kp dM 22 Tryz.f22) [p0,p1]=jT L p0 p1:=by kernel_rfl
theorem eq_74(L:bC)(p0:PV):aQ (S.env L Kq dM 74 Tryz.f74) [p0]=tZ L p0:=by kernel_rfl
theorem eq_89(L:bC)(p0 p1:PV):aQ (S.env L Kr dM 89 Tryz.f89) [p0,p1]=sw L p0 p1:=by kernel_rfl
theorem eq_71(L:bC)(p0 p1:PV):aQ (S.env L Ks dM 71 Tryz.f71) [p0,p1]=yH L p0 p1:=by kernel_rfl
theorem eq_10(L:bC)(p0:PV):aQ (S.env L Kt dM 10 Tryz.f10) [p0]=ua L p0:=by kernel_rfl
theorem eq_37(L:bC)(p0 p1:PV):aQ (S.env L Ku dM 37 Tryz.f37) [p0,p1]=nu L p0 p1:=by kernel_rfl
theorem eq_7(L:bC)(p0 p1:PV):aQ (S.env L Kv dM 7 Tryz.f7) [p0,p1]=ko L p0 p1:=by kernel_rfl
end Go.Proofs.YtcmhmlnkhmefbaaGreat
