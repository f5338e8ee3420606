import Derived.Test.YtanikidijjaohaaGreatTab
namespace Go.Proofs.YtanikidijjaohaaGreat
open Go.Ab
set_option maxRecDepth 1000000
theorem eq_120(L:aX)(p0 p1:PV):al (S0.env L Xp ar 120 Tryz.f120) [p0,p1]=qm L p0 p1:=by kernel_rfl
theorem eq_72(L:aX)(p0 p1 p2:PV):al (S.env L Xq ar 72 Tryz.f72) [p0,p1,p2]=tN L p0 p1 p2:=by kernel_rfl
theorem eq_154(L:aX)(p0 c1:PV):al (S.env L Xr ar 154 Tryz.f154) [p0,PV.rp [c1]]=oI L p0 c1:=by kernel_rfl
theorem eq_143(L:aX)(p0 p1 p2:PV):al (S.env L O6 ar 143 Tryz.f143) [p0,p1,p2]=qn L p0 p1 p2:=by kernel_rfl
theorem eq_115(L:aX)(p0 p1 p2:PV):al (S.env L O7 ar 115 Tryz.f115) [p0,p1,p2]=mF L p0 p1 p2:=by kernel_rfl
theorem eq_45(L:aX)(p0:PV):al (S.env L O8 ar 45 Tryz.f45) [p0]=mG L p0:=by kernel_rfl
theorem eq_42(L:aX)(p0:PV):al (S.env L O9 ar 42 Tryz.f42) [p0]=np L p0:=by kernel_rfl
theorem eq_69(L:aX)(p0:PV):al (S.env L Pa ar 69 Tryz.f69) [p0]=xy L p0:=by kernel_rfl
theorem eq_12(L:aX)(p0 p1:PV):al (S.env L Pb ar 12 Tryz.f12) [p0,p1]=lD L p0 p1:=by kernel_rfl
theorem eq_126(L:aX)(p0 p1 p2 p3:PV):al (S.env L Pc ar 126 Tryz.f126) [p0,p1,p2,p3]=oJ L p0 p1 p2 p3:=by kernel_rfl
theorem eq_125(L:aX)(p0 p1:PV):al (S.env L Pd ar 125 Tryz.f125) [p0,p1]=sf L p0 p1:=by kernel_rfl
theorem eq_123(L:aX)(p0:PV):al (S.env L Pe ar 123 Tryz.f123) [p0]=Ad L p0:=by kernel_rfl
theorem eq_106(L:aX)(p0 p1:PV):al (S.env L Pf ar 106 Tryz.f106) [p0,p1]=tO L p0 p1:=by kernel_rfl
theorem eq_28(L:aX)(p0 p1 p2:PV):al (S.env L Pg ar 28 Tryz.f28) [p0,p1,p2]=vG L p0 p1 p2:=by kernel_rfl
theorem eq_83(L:aX)(p0:PV):al (S.env L Ph ar 83 Tryz.f83) [p0]=fk L p0:=by kernel_rfl
theorem eq_94(L:aX)(p0 p1:PV):al (S.env L Pj ar 94 Tryz.f94) [p0,p1]=jZ L p0 p1:=by kernel_rfl
theorem eq_92(L:aX)(p0:PV):al (S.env L Pk ar 92 Tryz.f92) [p0]=jx L p0:=by kernel_rfl
theorem eq_48(L:aX)(p0:PV):al (S.env L Pl ar 48 Tryz.f48) [p0]=jy L p0:=by kernel_rfl
theorem eq_11(L:aX):al (S.env L Pm ar 11 Tryz.f11) []=mH L:=by kernel_rfl
theorem eq_80(L:aX)(p0:PV):al (S.env L Pn ar 80 Tryz.f80) [p0]=xz L p0:=by kernel_rfl
theorem eq_102(L:aX)(p0 p1:PV):al (S.env L Po ar 102 Tryz.f102) [p0,p1]=vH L p0 p1:=by kernel_rfl
theorem eq_77(L:aX)(p0 p1:PV):al (S.env L Pp ar 77 Tryz.f77) [p0,p1]=Cn L p0 p1:=by kernel_rfl
theorem eq_47(L:aX)(p0 p1 p2:PV):al (S.env L Pq ar 47 Tryz.f47) [p0,p1,p2]=FZ L p0 p1 p2:=by kernel_rfl
theorem eq_53(L:aX)(p0 p1 p2:PV):al (S.env L Pr ar 53 Tryz.f53) [p0,p1,p2]=Ae L p0 p1 p2:=by kernel_rfl
theorem eq_61(L:aX)(p0 p1:PV):al (S.env L Ps ar 61 Tryz.f61) [p0,p1]=vI L p0 p1:=by kernel_rfl
theorem eq_29(L:aX)(p0 p1 p2 p3:PV):al (S.env L JF ar 29 Tryz.f29) [p0,p1,p2,p3]=F0 L p0 p1 p2 p3:=by kernel_rfl
theorem eq_113(L:aX)(p0 p1 p2 p3:PV):al (S.env L JG ar 113 Tryz.f113) [p0,p1,p2,p3]=vJ L p0 p1 p2 p3:=by kernel_rfl
theorem eq_88(L:aX)(p0 p1:PV):al (S.env L JH ar 88 Tryz.f88) [p0,p1]=xA L p0 p1:=by kernel_rfl
theorem eq_15(L:aX)(p0 p1 p2:PV):al (S.env L JI ar 15 Tryz.f15) [p0,p1,p2]=xB L p0 p1 p2:=by kernel_rfl
theorem eq_67(L:aX)(p0 p1:PV):al (S.env L JJ ar 67 Tryz.f67) [p0,p1]=xC L p0 p1:=by kernel_rfl
theorem eq_37(L:aX)(p0 p1 p2:PV):al (S.env L JK vK 37 Tryz.f37) [p0,p1,p2]=vL L p0 p1 p2:=by kernel_rfl
theorem eq_21(L:aX)(p0 p1:PV):al (S.env L JL vK 21 Tryz.f21) [p0,p1]=Co L p0 p1:=by kernel_rfl
end Go.Proofs.YtanikidijjaohaaGreat
