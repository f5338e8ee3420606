import Derived.Test.YtcmhmlnkhmefbaaGreatTab
namespace Go.Proofs.YtcmhmlnkhmefbaaGreat
open Go.Ab
set_option maxRecDepth 1000000
theorem eq_24(L:bx)(p0 p1:PV):aQ (S.env L MG bS 24 Tryz.f24) [p0,p1]=zu L p0 p1:=by kernel_rfl
theorem eq_77(L:bx)(p0 p1 p2 p3:PV):aQ (S.env L Rz bS 77 Tryz.f77) [p0,p1,p2,p3]=wa L p0 p1 p2 p3:=by kernel_rfl
theorem eq_49(L:bx)(p0:PV):aQ (S.env L J1 bS 49 Tryz.f49) [p0]=tQ L p0:=by kernel_rfl
theorem eq_27(L:bx)(p0:PV):aQ (S.env L J2 bS 27 Tryz.f27) [p0]=mw L p0:=by kernel_rfl
theorem eq_45(L:bx)(p0:PV):aQ (S.env L J3 bS 45 Tryz.f45) [p0]=ke L p0:=by kernel_rfl
theorem eq_131(L:bx)(Xp Xq p1 p2:PV):aQ (S.env L J4 bS 131 Tryz.f131) [PV.rp [PV.fn 123 [],Xp,Xq],p1,p2]=ef L Xp Xq p1 p2:=by kernel_rfl
theorem eq_103(L:bx)(p0 p1:PV):aQ (S.env L J5 bS 103 Tryz.f103) [p0,p1]=sl L p0 p1:=by kernel_rfl
theorem eq_81(L:bx)(p0 p1:PV):aQ (S.env L J6 bS 81 Tryz.f81) [p0,p1]=lh L p0 p1:=by kernel_rfl
theorem eq_80(L:bx)(p0 p1 p2:PV):aQ (S.env L J7 bS 80 Tryz.f80) [p0,p1,p2]=oR L p0 p1 p2:=by kernel_rfl
theorem eq_40(L:bx)(p0:PV):aQ (S.env L J8 bS 40 Tryz.f40) [p0]=wb L p0:=by kernel_rfl
theorem eq_56(L:bx)(p0:PV):kO (S.env L qy J9 56 Tryz.f56) [p0]=kg L p0:=by kernel_rfl
theorem eq_53(L:bx)(p0:PV):kO (S.env L qy Ka 53 Tryz.f53) [p0]=kh L p0:=by kernel_rfl
theorem eq_20(L:bx)(p0 p1:PV):aQ (S.env L Kb dI 20 Tryz.f20) [p0,p1]=tR L p0 p1:=by kernel_rfl
theorem eq_22(L:bx)(p0 p1:PV):aQ (S.env L Kc dI 22 Tryz.f22) [p0,p1]=jR L p0 p1:=by kernel_rfl
theorem eq_74(L:bx)(p0:PV):aQ (S.env L Ke dI 74 Tryz.f74) [p0]=tS L p0:=by kernel_rfl
theorem eq_89(L:bx)(p0 p1:PV):aQ (S.env L Kf dI 89 Tryz.f89) [p0,p1]=sn L p0 p1:=by kernel_rfl
theorem eq_71(L:bx)(p0 p1:PV):aQ (S.env L Kg dI 71 Tryz.f71) [p0,p1]=yz L p0 p1:=by kernel_rfl
theorem eq_37(L:bx)(p0 p1:PV):aQ (S.env L Kh dI 37 Tryz.f37) [p0,p1]=nk L p0 p1:=by kernel_rfl
theorem eq_18(L:bx)(p0:PV):aQ (S.env L Ki dI 18 Tryz.f18) [p0]=tT L p0:=by kernel_rfl
end Go.Proofs.YtcmhmlnkhmefbaaGreat
