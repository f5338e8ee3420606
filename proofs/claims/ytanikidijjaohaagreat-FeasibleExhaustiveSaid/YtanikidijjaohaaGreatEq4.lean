import Derived.Test.YtanikidijjaohaaGreatTab
namespace Go.Proofs.YtanikidijjaohaaGreat
open Go.Ab
set_option maxRecDepth 1000000
theorem eq_24(L:aX)(p0 p1 p2:PV):al (S.env L SU ar 24 Tryz.f24) [p0,p1,p2]=qo L p0 p1 p2:=by kernel_rfl
theorem eq_43(L:aX)(p0:PV):al (S.env L Xw ar 43 Tryz.f43) [p0]=mK L p0:=by kernel_rfl
theorem eq_164(L:aX)(c01 c02 p1 p2:PV):al (S.env L Qe ar 164 Tryz.f164) [PV.rp [PV.fn 156 [],c01,c02],p1,p2]=ey L c01 c02 p1 p2:=by kernel_rfl
theorem eq_130(L:aX)(p0 p1:PV):al (S.env L Qf ar 130 Tryz.f130) [p0,p1]=vR L p0 p1:=by kernel_rfl
theorem eq_74(L:aX)(p0 p1:PV):al (S.env L Qg ar 74 Tryz.f74) [p0,p1]=nu L p0 p1:=by kernel_rfl
theorem eq_68(L:aX)(p0:PV):al (S.env L Qh ar 68 Tryz.f68) [p0]=xS L p0:=by kernel_rfl
theorem eq_44(L:aX)(p0:PV):al (S.env L Qi ar 44 Tryz.f44) [p0]=tV L p0:=by kernel_rfl
theorem eq_23(L:aX)(p0:PV):al (S.env L Qj ar 23 Tryz.f23) [p0]=tW L p0:=by kernel_rfl
theorem eq_139(L:aX)(p0 p1 p2:PV):al (S.env L Qk ar 139 Tryz.f139) [p0,p1,p2]=xT L p0 p1 p2:=by kernel_rfl
theorem eq_134(L:aX)(p0 p1 p2:PV):al (S.env L Ql ar 134 Tryz.f134) [p0,p1,p2]=tX L p0 p1 p2:=by kernel_rfl
theorem eq_86(L:aX)(p0 p1:PV):al (S.env L Qm ar 86 Tryz.f86) [p0,p1]=vS L p0 p1:=by kernel_rfl
theorem eq_122(L:aX)(p0 p1:PV):al (S.env L Qn ar 122 Tryz.f122) [p0,p1]=qp L p0 p1:=by kernel_rfl
theorem eq_50(L:aX)(p0 p1 p2:PV):al (S.env L Qo ar 50 Tryz.f50) [p0,p1,p2]=vT L p0 p1 p2:=by kernel_rfl
theorem eq_104(L:aX)(p0 p1:PV):al (S.env L Qp ar 104 Tryz.f104) [p0,p1]=iP L p0 p1:=by kernel_rfl
theorem eq_93(L:aX)(p0:PV):al (S.env L Qq ar 93 Tryz.f93) [p0]=iQ L p0:=by kernel_rfl
theorem eq_57(L:aX)(p0:PV):al (S.env L Qr ar 57 Tryz.f57) [p0]=fH L p0:=by kernel_rfl
theorem eq_31(L:aX)(p0:PV):al (S.env L Qs ar 31 Tryz.f31) [p0]=kF L p0:=by kernel_rfl
theorem eq_22(L:aX)(p0:PV):al (S.env L Qt ar 22 Tryz.f22) [p0]=vU L p0:=by kernel_rfl
theorem eq_99(L:aX)(p0 p1 p2:PV):al (S.env L Qu ar 99 Tryz.f99) [p0,p1,p2]=F3 L p0 p1 p2:=by kernel_rfl
theorem eq_121(L:aX)(p0 p1 p2:PV):al (S.env L Qv ar 121 Tryz.f121) [p0,p1,p2]=so L p0 p1 p2:=by kernel_rfl
theorem eq_100(L:aX)(p0 p1 p2 p3:PV):al (S.env L Qw ar 100 Tryz.f100) [p0,p1,p2,p3]=xU L p0 p1 p2 p3:=by kernel_rfl
theorem eq_25(L:aX)(p0:PV):al (S.env L Qx ar 25 Tryz.f25) [p0]=xV L p0:=by kernel_rfl
theorem eq_52(L:aX)(p0 p1 p2:PV):al (S.env L Qy ar 52 Tryz.f52) [p0,p1,p2]=vV L p0 p1 p2:=by kernel_rfl
theorem eq_32(L:aX)(p0 p1 p2:PV):al (S.env L JW ar 32 Tryz.f32) [p0,p1,p2]=sq L p0 p1 p2:=by kernel_rfl
theorem eq_129(L:aX)(p0 p1 p2:PV):al (S.env L JX ar 129 Tryz.f129) [p0,p1,p2]=q6 L p0 p1 p2:=by kernel_rfl
theorem eq_112(L:aX)(p0 p1:PV):al (S.env L JY ar 112 Tryz.f112) [p0,p1]=xW L p0 p1:=by kernel_rfl
theorem eq_30(L:aX)(p0 p1 p2:PV):al (S.env L JZ ar 30 Tryz.f30) [p0,p1,p2]=Cq L p0 p1 p2:=by kernel_rfl
theorem eq_19(L:aX)(p0 p1 p2:PV):al (S.env L J0 ar 19 Tryz.f19) [p0,p1,p2]=mo L p0 p1 p2:=by kernel_rfl
theorem eq_34(L:aX)(p0 p1 p2:PV):al (S.env L J1 ar 34 Tryz.f34) [p0,p1,p2]=sr L p0 p1 p2:=by kernel_rfl
theorem eq_66(L:aX)(p0 p1:PV):al (S.env L J2 vK 66 Tryz.f66) [p0,p1]=Ao L p0 p1:=by kernel_rfl
theorem eq_35(L:aX)(p0 p1:PV):al (S.env L J3 vK 35 Tryz.f35) [p0,p1]=xX L p0 p1:=by kernel_rfl
end Go.Proofs.YtanikidijjaohaaGreat
