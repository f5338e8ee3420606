import Derived.Test.YtcmhmlnkhmefbaaGreatTab
namespace Go.Proofs.YtcmhmlnkhmefbaaGreat
open Go.Ab
set_option maxRecDepth 1000000
theorem eq_24(L:bL)(p0 p1:PV):aR (S.env L L5 bR 24 Tryz.f24) [p0,p1]=yZ L p0 p1:=by kernel_rfl
theorem eq_77(L:bL)(p0 p1 p2 p3:PV):aR (S.env L QP bR 77 Tryz.f77) [p0,p1,p2,p3]=vE L p0 p1 p2 p3:=by kernel_rfl
theorem eq_49(L:bL)(p0:PV):aR (S.env L Jx bR 49 Tryz.f49) [p0]=tu L p0:=by kernel_rfl
theorem eq_27(L:bL)(p0:PV):aR (S.env L Jy bR 27 Tryz.f27) [p0]=ma L p0:=by kernel_rfl
theorem eq_45(L:bL)(p0:PV):aR (S.env L Jz bR 45 Tryz.f45) [p0]=jY L p0:=by kernel_rfl
theorem eq_131(L:bL)(Ws Wt p1 p2:PV):aR (S.env L JA bR 131 Tryz.f131) [PV.rp [PV.fn 123 [],Ws,Wt],p1,p2]=ee L Ws Wt p1 p2:=by kernel_rfl
theorem eq_103(L:bL)(p0 p1:PV):aR (S.env L JB bR 103 Tryz.f103) [p0,p1]=rE L p0 p1:=by kernel_rfl
theorem eq_81(L:bL)(p0 p1:PV):aR (S.env L JC bR 81 Tryz.f81) [p0,p1]=kU L p0 p1:=by kernel_rfl
theorem eq_80(L:bL)(p0 p1 p2:PV):aR (S.env L JD bR 80 Tryz.f80) [p0,p1,p2]=oB L p0 p1 p2:=by kernel_rfl
theorem eq_40(L:bL)(p0:PV):aR (S.env L JE bR 40 Tryz.f40) [p0]=vF L p0:=by kernel_rfl
theorem eq_56(L:bL)(p0:PV):kC (S.env L pX JF 56 Tryz.f56) [p0]=jZ L p0:=by kernel_rfl
theorem eq_53(L:bL)(p0:PV):kC (S.env L pX JG 53 Tryz.f53) [p0]=j3 L p0:=by kernel_rfl
theorem eq_20(L:bL)(p0 p1:PV):aR (S.env L JH eL 20 Tryz.f20) [p0,p1]=tv L p0 p1:=by kernel_rfl
theorem eq_22(L:bL)(p0 p1:PV):aR (S.env L JI eL 22 Tryz.f22) [p0,p1]=jH L p0 p1:=by kernel_rfl
theorem eq_74(L:bL)(p0:PV):aR (S.env L JJ eL 74 Tryz.f74) [p0]=tw L p0:=by kernel_rfl
theorem eq_89(L:bL)(p0 p1:PV):aR (S.env L JK eL 89 Tryz.f89) [p0,p1]=rF L p0 p1:=by kernel_rfl
theorem eq_71(L:bL)(p0 p1:PV):aR (S.env L JL eL 71 Tryz.f71) [p0,p1]=xN L p0 p1:=by kernel_rfl
theorem eq_10(L:bL)(p0:PV):aR (S.env L JM eL 10 Tryz.f10) [p0]=tx L p0:=by kernel_rfl
end Go.Proofs.YtcmhmlnkhmefbaaGreat
