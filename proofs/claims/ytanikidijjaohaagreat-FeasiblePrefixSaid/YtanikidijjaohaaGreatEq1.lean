import Derived.Test.YtanikidijjaohaaGreatTab
namespace Go.Proofs.YtanikidijjaohaaGreat
open Go.Ab
set_option maxRecDepth 1000000
theorem eq_120(L:bd)(p0 p1:PV):aq (S0.env L U4 ar 120 Tryz.f120) [p0,p1]=oX L p0 p1:=by kernel_rfl
theorem eq_72(L:bd)(p0 p1 p2:PV):aq (S.env L U5 ar 72 Tryz.f72) [p0,p1,p2]=sx L p0 p1 p2:=by kernel_rfl
theorem eq_154(L:bd)(p0 c1:PV):aq (S.env L U6 ar 154 Tryz.f154) [p0,PV.rp [c1]]=nB L p0 c1:=by kernel_rfl
theorem eq_143(L:bd)(p0 p1 p2:PV):aq (S.env L MJ ar 143 Tryz.f143) [p0,p1,p2]=oY L p0 p1 p2:=by kernel_rfl
theorem eq_115(L:bd)(p0 p1 p2:PV):aq (S.env L MK ar 115 Tryz.f115) [p0,p1,p2]=lI L p0 p1 p2:=by kernel_rfl
theorem eq_45(L:bd)(p0:PV):aq (S.env L ML ar 45 Tryz.f45) [p0]=lJ L p0:=by kernel_rfl
theorem eq_42(L:bd)(p0:PV):aq (S.env L MM ar 42 Tryz.f42) [p0]=my L p0:=by kernel_rfl
theorem eq_69(L:bd)(p0:PV):aq (S.env L MN ar 69 Tryz.f69) [p0]=vT L p0:=by kernel_rfl
theorem eq_12(L:bd)(p0 p1:PV):aq (S.env L MO ar 12 Tryz.f12) [p0,p1]=kJ L p0 p1:=by kernel_rfl
theorem eq_126(L:bd)(p0 p1 p2 p3:PV):aq (S.env L MP ar 126 Tryz.f126) [p0,p1,p2,p3]=nC L p0 p1 p2 p3:=by kernel_rfl
theorem eq_125(L:bd)(p0 p1:PV):aq (S.env L MQ ar 125 Tryz.f125) [p0,p1]=qK L p0 p1:=by kernel_rfl
theorem eq_123(L:bd)(p0:PV):aq (S.env L MR ar 123 Tryz.f123) [p0]=yA L p0:=by kernel_rfl
theorem eq_106(L:bd)(p0 p1:PV):aq (S.env L MS ar 106 Tryz.f106) [p0,p1]=sy L p0 p1:=by kernel_rfl
theorem eq_28(L:bd)(p0 p1 p2:PV):aq (S.env L MT ar 28 Tryz.f28) [p0,p1,p2]=uk L p0 p1 p2:=by kernel_rfl
theorem eq_83(L:bd)(p0:PV):aq (S.env L MU ar 83 Tryz.f83) [p0]=eW L p0:=by kernel_rfl
theorem eq_94(L:bd)(p0 p1:PV):aq (S.env L MV ar 94 Tryz.f94) [p0,p1]=jt L p0 p1:=by kernel_rfl
theorem eq_92(L:bd)(p0:PV):aq (S.env L MW ar 92 Tryz.f92) [p0]=iO L p0:=by kernel_rfl
theorem eq_48(L:bd)(p0:PV):aq (S.env L MX ar 48 Tryz.f48) [p0]=iP L p0:=by kernel_rfl
theorem eq_11(L:bd):aq (S.env L MY ar 11 Tryz.f11) []=lK L:=by kernel_rfl
theorem eq_80(L:bd)(p0:PV):aq (S.env L MZ ar 80 Tryz.f80) [p0]=vU L p0:=by kernel_rfl
theorem eq_102(L:bd)(p0 p1:PV):aq (S.env L M0 ar 102 Tryz.f102) [p0,p1]=uo L p0 p1:=by kernel_rfl
theorem eq_77(L:bd)(p0 p1:PV):aq (S.env L M1 ar 77 Tryz.f77) [p0,p1]=AZ L p0 p1:=by kernel_rfl
theorem eq_47(L:bd)(p0 p1 p2:PV):aq (S.env L M3 ar 47 Tryz.f47) [p0,p1,p2]=Em L p0 p1 p2:=by kernel_rfl
theorem eq_53(L:bd)(p0 p1 p2:PV):aq (S.env L M4 ar 53 Tryz.f53) [p0,p1,p2]=yB L p0 p1 p2:=by kernel_rfl
theorem eq_61(L:bd)(p0 p1:PV):aq (S.env L M5 ar 61 Tryz.f61) [p0,p1]=uq L p0 p1:=by kernel_rfl
theorem eq_29(L:bd)(p0 p1 p2 p3:PV):aq (S.env L HN ar 29 Tryz.f29) [p0,p1,p2,p3]=En L p0 p1 p2 p3:=by kernel_rfl
theorem eq_16(L:bd)(p0 p1 p2:PV):aq (S.env L HO ar 16 Tryz.f16) [p0,p1,p2]=ur L p0 p1 p2:=by kernel_rfl
theorem eq_18(L:bd)(p0 p1 p2:PV):aq (S.env L HP ar 18 Tryz.f18) [p0,p1,p2]=uu L p0 p1 p2:=by kernel_rfl
end Go.Proofs.YtanikidijjaohaaGreat
