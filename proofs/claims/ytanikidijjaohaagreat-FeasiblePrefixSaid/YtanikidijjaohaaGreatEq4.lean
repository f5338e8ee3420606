import Derived.Test.YtanikidijjaohaaGreatTab
namespace Go.Proofs.YtanikidijjaohaaGreat
open Go.Ab
set_option maxRecDepth 1000000
theorem eq_24(L:bd)(p0 p1 p2:PV):aq (S.env L Qw ar 24 Tryz.f24) [p0,p1,p2]=oZ L p0 p1 p2:=by kernel_rfl
theorem eq_43(L:bd)(p0:PV):aq (S.env L Vb ar 43 Tryz.f43) [p0]=lO L p0:=by kernel_rfl
theorem eq_164(L:bd)(c01 c02 p1 p2:PV):aq (S.env L NX ar 164 Tryz.f164) [PV.rp [PV.fn 156 [],c01,c02],p1,p2]=ef L c01 c02 p1 p2:=by kernel_rfl
theorem eq_130(L:bd)(p0 p1:PV):aq (S.env L NY ar 130 Tryz.f130) [p0,p1]=uz L p0 p1:=by kernel_rfl
theorem eq_74(L:bd)(p0 p1:PV):aq (S.env L NZ ar 74 Tryz.f74) [p0,p1]=mC L p0 p1:=by kernel_rfl
theorem eq_68(L:bd)(p0:PV):aq (S.env L N0 ar 68 Tryz.f68) [p0]=we L p0:=by kernel_rfl
theorem eq_44(L:bd)(p0:PV):aq (S.env L N1 ar 44 Tryz.f44) [p0]=sF L p0:=by kernel_rfl
theorem eq_23(L:bd)(p0:PV):aq (S.env L N2 ar 23 Tryz.f23) [p0]=sG L p0:=by kernel_rfl
theorem eq_139(L:bd)(p0 p1 p2:PV):aq (S.env L N3 ar 139 Tryz.f139) [p0,p1,p2]=wg L p0 p1 p2:=by kernel_rfl
theorem eq_134(L:bd)(p0 p1 p2:PV):aq (S.env L N4 ar 134 Tryz.f134) [p0,p1,p2]=sH L p0 p1 p2:=by kernel_rfl
theorem eq_86(L:bd)(p0 p1:PV):aq (S.env L N5 ar 86 Tryz.f86) [p0,p1]=uA L p0 p1:=by kernel_rfl
theorem eq_122(L:bd)(p0 p1:PV):aq (S.env L N6 ar 122 Tryz.f122) [p0,p1]=o9 L p0 p1:=by kernel_rfl
theorem eq_50(L:bd)(p0 p1 p2:PV):aq (S.env L N7 ar 50 Tryz.f50) [p0,p1,p2]=uB L p0 p1 p2:=by kernel_rfl
theorem eq_104(L:bd)(p0 p1:PV):aq (S.env L N8 ar 104 Tryz.f104) [p0,p1]=im L p0 p1:=by kernel_rfl
theorem eq_93(L:bd)(p0:PV):aq (S.env L N9 ar 93 Tryz.f93) [p0]=iq L p0:=by kernel_rfl
theorem eq_57(L:bd)(p0:PV):aq (S.env L Oa ar 57 Tryz.f57) [p0]=fo L p0:=by kernel_rfl
theorem eq_31(L:bd)(p0:PV):aq (S.env L Ob ar 31 Tryz.f31) [p0]=j2 L p0:=by kernel_rfl
theorem eq_22(L:bd)(p0:PV):aq (S.env L Oc ar 22 Tryz.f22) [p0]=uC L p0:=by kernel_rfl
theorem eq_99(L:bd)(p0 p1 p2:PV):aq (S.env L Od ar 99 Tryz.f99) [p0,p1,p2]=Er L p0 p1 p2:=by kernel_rfl
theorem eq_121(L:bd)(p0 p1 p2:PV):aq (S.env L Oe ar 121 Tryz.f121) [p0,p1,p2]=qQ L p0 p1 p2:=by kernel_rfl
theorem eq_100(L:bd)(p0 p1 p2 p3:PV):aq (S.env L Of ar 100 Tryz.f100) [p0,p1,p2,p3]=wh L p0 p1 p2 p3:=by kernel_rfl
theorem eq_25(L:bd)(p0:PV):aq (S.env L Og ar 25 Tryz.f25) [p0]=wj L p0:=by kernel_rfl
theorem eq_3(L:bd)(p0 p1:PV):aq (S.env L Oh ar 3 Tryz.f3) [p0,p1]=kK L p0 p1:=by kernel_rfl
theorem eq_52(L:bd)(p0 p1 p2:PV):aq (S.env L Oi ar 52 Tryz.f52) [p0,p1,p2]=uD L p0 p1 p2:=by kernel_rfl
theorem eq_32(L:bd)(p0 p1 p2:PV):aq (S.env L HU ar 32 Tryz.f32) [p0,p1,p2]=qR L p0 p1 p2:=by kernel_rfl
theorem eq_6(L:bd)(p0 p1 p2:PV):aq (S.env L HV ar 6 Tryz.f6) [p0,p1,p2]=gg L p0 p1 p2:=by kernel_rfl
theorem eq_19(L:bd)(p0 p1 p2:PV):aq (S.env L HW ar 19 Tryz.f19) [p0,p1,p2]=pd L p0 p1 p2:=by kernel_rfl
end Go.Proofs.YtanikidijjaohaaGreat
