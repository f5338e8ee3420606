import Derived.Test.YtcmhmlnkhmefbaaGreatTab
namespace Go.Proofs.YtcmhmlnkhmefbaaGreat
open Go.Ab
set_option maxRecDepth 1000000
theorem eq_101(L:bB)(p0:PV):aQ (S0.env L RF bS 101 Tryz.f101) [p0]=we L p0:=by kernel_rfl
theorem eq_23(L:bB):aQ (S.env L RG bS 23 Tryz.f23) []=vJ L:=by kernel_rfl
theorem eq_93(L:bB)(p0:PV):aQ (S.env L RH bS 93 Tryz.f93) [p0]=qB L p0:=by kernel_rfl
theorem eq_51(L:bB)(p0 p1:PV):aQ (S.env L JD bS 51 Tryz.f51) [p0,p1]=k8 L p0 p1:=by kernel_rfl
theorem eq_43(L:bB)(p0 p1 p2:PV):aQ (S.env L JE bS 43 Tryz.f43) [p0,p1,p2]=B7 L p0 p1 p2:=by kernel_rfl
theorem eq_107(L:bB)(p0 p1 p2:PV):aQ (S.env L JF bS 107 Tryz.f107) [p0,p1,p2]=oO L p0 p1 p2:=by kernel_rfl
theorem eq_109(L:bB)(p0:PV):aQ (S.env L JG bS 109 Tryz.f109) [p0]=l7 L p0:=by kernel_rfl
theorem eq_92(L:bB)(p0 p1:PV):aQ (S.env L JH bS 92 Tryz.f92) [p0,p1]=l8 L p0 p1:=by kernel_rfl
theorem eq_44(L:bB)(p0:PV):aQ (S.env L JI bS 44 Tryz.f44) [p0]=k9 L p0:=by kernel_rfl
theorem eq_76(L:bB)(p0:PV):aQ (S.env L JJ bS 76 Tryz.f76) [p0]=tR L p0:=by kernel_rfl
theorem eq_58(L:bB)(p0:PV):kN (S.env L qA bS 58 Tryz.f58) [p0]=j8 L p0:=by kernel_rfl
theorem eq_54(L:bB)(p0:PV):kN (S.env L qA JK 54 Tryz.f54) [p0]=js L p0:=by kernel_rfl
theorem eq_82(L:bB)(p0:PV):kN (S.env L EO EM 82 Tryz.f82) [p0]=qC L p0:=by kernel_rfl
theorem eq_75(L:bB)(p0 p1:PV):aQ (S.env L JL dK 75 Tryz.f75) [p0,p1]=gL L p0 p1:=by kernel_rfl
theorem eq_86(L:bB)(p0:PV):aQ (S.env L JM dK 86 Tryz.f86) [p0]=qD L p0:=by kernel_rfl
theorem eq_72(L:bB)(p0 p1:PV):aQ (S.env L JN dK 72 Tryz.f72) [p0,p1]=wg L p0 p1:=by kernel_rfl
theorem eq_70(L:bB)(p0:PV):aQ (S.env L JO dK 70 Tryz.f70) [p0]=sn L p0:=by kernel_rfl
theorem eq_38(L:bB)(p0:PV):aQ (S.env L JP dK 38 Tryz.f38) [p0]=tS L p0:=by kernel_rfl
theorem eq_36(L:bB)(p0 p1:PV):aQ (S.env L JQ dK 36 Tryz.f36) [p0,p1]=oP L p0 p1:=by kernel_rfl
theorem eq_9(L:bB)(p0 p1:PV):aQ (S.env L JR dK 9 Tryz.f9) [p0,p1]=iT L p0 p1:=by kernel_rfl
end Go.Proofs.YtcmhmlnkhmefbaaGreat
