import Derived.Test.YtcmhmlnkhmefbaaGreatTab
namespace Go.Proofs.YtcmhmlnkhmefbaaGreat
open Go.Ab
set_option maxRecDepth 1000000
theorem eq_101(L:bx)(p0:PV):aQ (S0.env L Ru bS 101 Tryz.f101) [p0]=vZ L p0:=by kernel_rfl
theorem eq_23(L:bx):aQ (S.env L Rv bS 23 Tryz.f23) []=vE L:=by kernel_rfl
theorem eq_93(L:bx)(p0:PV):aQ (S.env L Rw bS 93 Tryz.f93) [p0]=qz L p0:=by kernel_rfl
theorem eq_51(L:bx)(p0 p1:PV):aQ (S.env L Jw bS 51 Tryz.f51) [p0,p1]=k9 L p0 p1:=by kernel_rfl
theorem eq_43(L:bx)(p0 p1 p2:PV):aQ (S.env L Jx bS 43 Tryz.f43) [p0,p1,p2]=BZ L p0 p1 p2:=by kernel_rfl
theorem eq_107(L:bx)(p0 p1 p2:PV):aQ (S.env L Jy bS 107 Tryz.f107) [p0,p1,p2]=oM L p0 p1 p2:=by kernel_rfl
theorem eq_109(L:bx)(p0:PV):aQ (S.env L Jz bS 109 Tryz.f109) [p0]=l8 L p0:=by kernel_rfl
theorem eq_92(L:bx)(p0 p1:PV):aQ (S.env L JA bS 92 Tryz.f92) [p0,p1]=l9 L p0 p1:=by kernel_rfl
theorem eq_44(L:bx)(p0:PV):aQ (S.env L JB bS 44 Tryz.f44) [p0]=la L p0:=by kernel_rfl
theorem eq_76(L:bx)(p0:PV):aQ (S.env L JC bS 76 Tryz.f76) [p0]=tL L p0:=by kernel_rfl
theorem eq_58(L:bx)(p0:PV):kO (S.env L qy bS 58 Tryz.f58) [p0]=j8 L p0:=by kernel_rfl
theorem eq_54(L:bx)(p0:PV):kO (S.env L qy JD 54 Tryz.f54) [p0]=jt L p0:=by kernel_rfl
theorem eq_82(L:bx)(p0:PV):kO (S.env L EH EF 82 Tryz.f82) [p0]=qA L p0:=by kernel_rfl
theorem eq_75(L:bx)(p0 p1:PV):aQ (S.env L JE dI 75 Tryz.f75) [p0,p1]=gK L p0 p1:=by kernel_rfl
theorem eq_86(L:bx)(p0:PV):aQ (S.env L JF dI 86 Tryz.f86) [p0]=qB L p0:=by kernel_rfl
theorem eq_72(L:bx)(p0 p1:PV):aQ (S.env L JG dI 72 Tryz.f72) [p0,p1]=v7 L p0 p1:=by kernel_rfl
theorem eq_70(L:bx)(p0:PV):aQ (S.env L JH dI 70 Tryz.f70) [p0]=si L p0:=by kernel_rfl
theorem eq_38(L:bx)(p0:PV):aQ (S.env L JI dI 38 Tryz.f38) [p0]=tM L p0:=by kernel_rfl
theorem eq_36(L:bx)(p0 p1:PV):aQ (S.env L JJ dI 36 Tryz.f36) [p0,p1]=oN L p0 p1:=by kernel_rfl
end Go.Proofs.YtcmhmlnkhmefbaaGreat
