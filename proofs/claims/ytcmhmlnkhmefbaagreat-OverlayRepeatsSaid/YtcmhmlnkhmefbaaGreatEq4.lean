import Derived.Test.YtcmhmlnkhmefbaaGreatTab
namespace Go.Proofs.YtcmhmlnkhmefbaaGreat
open Go.Ab
set_option maxRecDepth 1000000
theorem eq_24(L:bB)(p0 p1:PV):aQ (S.env L MQ bS 24 Tryz.f24) [p0,p1]=zB L p0 p1:=by kernel_rfl
theorem eq_77(L:bB)(p0 p1 p2 p3:PV):aQ (S.env L RL bS 77 Tryz.f77) [p0,p1,p2,p3]=wj L p0 p1 p2 p3:=by kernel_rfl
theorem eq_49(L:bB)(p0:PV):aQ (S.env L J9 bS 49 Tryz.f49) [p0]=tW L p0:=by kernel_rfl
theorem eq_27(L:bB)(p0:PV):aQ (S.env L Ka bS 27 Tryz.f27) [p0]=mr L p0:=by kernel_rfl
theorem eq_45(L:bB)(p0:PV):aQ (S.env L Kb bS 45 Tryz.f45) [p0]=ke L p0:=by kernel_rfl
theorem eq_131(L:bB)(XB XC p1 p2:PV):aQ (S.env L Kc bS 131 Tryz.f131) [PV.rp [PV.fn 123 [],XB,XC],p1,p2]=eh L XB XC p1 p2:=by kernel_rfl
theorem eq_103(L:bB)(p0 p1:PV):aQ (S.env L Ke bS 103 Tryz.f103) [p0,p1]=sr L p0 p1:=by kernel_rfl
theorem eq_81(L:bB)(p0 p1:PV):aQ (S.env L Kf bS 81 Tryz.f81) [p0,p1]=lf L p0 p1:=by kernel_rfl
theorem eq_80(L:bB)(p0 p1 p2:PV):aQ (S.env L Kg bS 80 Tryz.f80) [p0,p1,p2]=oT L p0 p1 p2:=by kernel_rfl
theorem eq_40(L:bB)(p0:PV):aQ (S.env L Kh bS 40 Tryz.f40) [p0]=wk L p0:=by kernel_rfl
theorem eq_56(L:bB)(p0:PV):kN (S.env L qA Ki 56 Tryz.f56) [p0]=kg L p0:=by kernel_rfl
theorem eq_53(L:bB)(p0:PV):kN (S.env L qA Kj 53 Tryz.f53) [p0]=kh L p0:=by kernel_rfl
theorem eq_20(L:bB)(p0 p1:PV):aQ (S.env L Kk dK 20 Tryz.f20) [p0,p1]=tX L p0 p1:=by kernel_rfl
theorem eq_22(L:bB)(p0 p1:PV):aQ (S.env L Km dK 22 Tryz.f22) [p0,p1]=jR L p0 p1:=by kernel_rfl
theorem eq_74(L:bB)(p0:PV):aQ (S.env L Kn dK 74 Tryz.f74) [p0]=tY L p0:=by kernel_rfl
theorem eq_89(L:bB)(p0 p1:PV):aQ (S.env L Ko dK 89 Tryz.f89) [p0,p1]=su L p0 p1:=by kernel_rfl
theorem eq_71(L:bB)(p0 p1:PV):aQ (S.env L Kp dK 71 Tryz.f71) [p0,p1]=yE L p0 p1:=by kernel_rfl
theorem eq_10(L:bB)(p0:PV):aQ (S.env L Kq dK 10 Tryz.f10) [p0]=tZ L p0:=by kernel_rfl
theorem eq_37(L:bB)(p0 p1:PV):aQ (S.env L Kr dK 37 Tryz.f37) [p0,p1]=ni L p0 p1:=by kernel_rfl
end Go.Proofs.YtcmhmlnkhmefbaaGreat
