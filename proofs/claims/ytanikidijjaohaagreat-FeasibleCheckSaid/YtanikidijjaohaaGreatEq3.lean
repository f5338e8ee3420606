import Derived.Test.YtanikidijjaohaaGreatTab
namespace Go.Proofs.YtanikidijjaohaaGreat
open Go.Ab
set_option maxRecDepth 1000000
theorem eq_118(L:bd)(p0 p1:PV):aq (S0.env L T3 ar 118 Tryz.f118) [p0,p1]=lC L p0 p1:=by kernel_rfl
theorem eq_71(L:bd)(p0 p1:PV):aq (S.env L T5 ar 71 Tryz.f71) [p0,p1]=qt L p0 p1:=by kernel_rfl
theorem eq_156(L:bd)(p0 p1:PV):aq (S.env L ML ar 156 Tryz.f156) [p0,p1]=rX L p0 p1:=by kernel_rfl
theorem eq_141(L:bd)(p0 p1:PV):aq (S.env L MM ar 141 Tryz.f141) [p0,p1]=lD L p0 p1:=by kernel_rfl
theorem eq_96(L:bd)(p0 p1:PV):aq (S.env L MN ar 96 Tryz.f96) [p0,p1]=qu L p0 p1:=by kernel_rfl
theorem eq_70(L:bd)(p0 p1 p2 p3:PV):aq (S.env L MO ar 70 Tryz.f70) [p0,p1,p2,p3]=yg L p0 p1 p2 p3:=by kernel_rfl
theorem eq_73(L:bd)(p0 p1 p2:PV):aq (S.env L MP ar 73 Tryz.f73) [p0,p1,p2]=qv L p0 p1 p2:=by kernel_rfl
theorem eq_38(L:bd)(p0:PV):aq (S.env L MQ ar 38 Tryz.f38) [p0]=yj L p0:=by kernel_rfl
theorem eq_127(L:bd)(p0 p1 p2:PV):aq (S.env L MR ar 127 Tryz.f127) [p0,p1,p2]=ni L p0 p1 p2:=by kernel_rfl
theorem eq_138(L:bd)(p0 p1:PV):aq (S.env L MS ar 138 Tryz.f138) [p0,p1]=ma L p0 p1:=by kernel_rfl
theorem eq_109(L:bd)(p0 p1:PV):aq (S.env L MT ar 109 Tryz.f109) [p0,p1]=tM L p0 p1:=by kernel_rfl
theorem eq_108(L:bd)(p0 p1:PV):aq (S.env L MU ar 108 Tryz.f108) [p0,p1]=qw L p0 p1:=by kernel_rfl
theorem eq_49(L:bd)(p0:PV):aq (S.env L MV ar 49 Tryz.f49) [p0]=tN L p0:=by kernel_rfl
theorem eq_103(L:bd)(p0:PV):aq (S.env L MW ar 103 Tryz.f103) [p0]=fT L p0:=by kernel_rfl
theorem eq_82(L:bd)(p0:PV):aq (S.env L MX ar 82 Tryz.f82) [p0]=fO L p0:=by kernel_rfl
theorem eq_58(L:bd)(p0:PV):aq (S.env L MY ar 58 Tryz.f58) [p0]=gp L p0:=by kernel_rfl
theorem eq_59(L:bd)(p0:PV):aq (S.env L MZ ar 59 Tryz.f59) [p0]=ja L p0:=by kernel_rfl
theorem eq_14(L:bd)(p0 p1 p2:PV):aq (S.env L M0 ar 14 Tryz.f14) [p0,p1,p2]=mb L p0 p1 p2:=by kernel_rfl
theorem eq_98(L:bd)(p0:PV):aq (S.env L M1 ar 98 Tryz.f98) [p0]=rY L p0:=by kernel_rfl
theorem eq_78(L:bd)(p0 p1:PV):aq (S.env L M3 ar 78 Tryz.f78) [p0,p1]=yn L p0 p1:=by kernel_rfl
theorem eq_76(L:bd)(p0:PV):aq (S.env L M4 ar 76 Tryz.f76) [p0]=tO L p0:=by kernel_rfl
theorem eq_46(L:bd)(p0:PV):aq (S.env L M5 ar 46 Tryz.f46) [p0]=vA L p0:=by kernel_rfl
theorem eq_13(L:bd)(p0 p1:PV):aq (S.env L M6 ar 13 Tryz.f13) [p0,p1]=nj L p0 p1:=by kernel_rfl
theorem eq_87(L:bd)(p0 p1 p2 p3:PV):aq (S.env L M7 ar 87 Tryz.f87) [p0,p1,p2,p3]=tP L p0 p1 p2 p3:=by kernel_rfl
theorem eq_63(L:bd)(p0 p1 p2:PV):aq (S.env L M8 ar 63 Tryz.f63) [p0,p1,p2]=yo L p0 p1 p2:=by kernel_rfl
theorem eq_128(L:bd)(p0:PV):aq (S.env L Hd ar 128 Tryz.f128) [p0]=yp L p0:=by kernel_rfl
theorem eq_89(L:bd)(p0 p1:PV):aq (S.env L He ar 89 Tryz.f89) [p0,p1]=vB L p0 p1:=by kernel_rfl
theorem eq_55(L:bd)(p0 p1 p2:PV):aq (S.env L Hf ar 55 Tryz.f55) [p0,p1,p2]=yq L p0 p1 p2:=by kernel_rfl
end Go.Proofs.YtanikidijjaohaaGreat
