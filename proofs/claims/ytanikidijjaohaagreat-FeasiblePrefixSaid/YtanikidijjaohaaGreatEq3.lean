import Derived.Test.YtanikidijjaohaaGreatTab
namespace Go.Proofs.YtanikidijjaohaaGreat
open Go.Ab
set_option maxRecDepth 1000000
theorem eq_118(L:bd)(p0 p1:PV):aq (S0.env L U9 ar 118 Tryz.f118) [p0,p1]=lL L p0 p1:=by kernel_rfl
theorem eq_71(L:bd)(p0 p1:PV):aq (S.env L Va ar 71 Tryz.f71) [p0,p1]=qM L p0 p1:=by kernel_rfl
theorem eq_156(L:bd)(p0 p1:PV):aq (S.env L Nz ar 156 Tryz.f156) [p0,p1]=sD L p0 p1:=by kernel_rfl
theorem eq_141(L:bd)(p0 p1:PV):aq (S.env L NA ar 141 Tryz.f141) [p0,p1]=lM L p0 p1:=by kernel_rfl
theorem eq_96(L:bd)(p0 p1:PV):aq (S.env L NB ar 96 Tryz.f96) [p0,p1]=qN L p0 p1:=by kernel_rfl
theorem eq_70(L:bd)(p0 p1 p2 p3:PV):aq (S.env L NC ar 70 Tryz.f70) [p0,p1,p2,p3]=yE L p0 p1 p2 p3:=by kernel_rfl
theorem eq_73(L:bd)(p0 p1 p2:PV):aq (S.env L ND ar 73 Tryz.f73) [p0,p1,p2]=qO L p0 p1 p2:=by kernel_rfl
theorem eq_38(L:bd)(p0:PV):aq (S.env L NF ar 38 Tryz.f38) [p0]=yF L p0:=by kernel_rfl
theorem eq_127(L:bd)(p0 p1 p2:PV):aq (S.env L NG ar 127 Tryz.f127) [p0,p1,p2]=nH L p0 p1 p2:=by kernel_rfl
theorem eq_138(L:bd)(p0 p1:PV):aq (S.env L NH ar 138 Tryz.f138) [p0,p1]=mz L p0 p1:=by kernel_rfl
theorem eq_109(L:bd)(p0 p1:PV):aq (S.env L NI ar 109 Tryz.f109) [p0,p1]=uv L p0 p1:=by kernel_rfl
theorem eq_108(L:bd)(p0 p1:PV):aq (S.env L NJ ar 108 Tryz.f108) [p0,p1]=qP L p0 p1:=by kernel_rfl
theorem eq_49(L:bd)(p0:PV):aq (S.env L NK ar 49 Tryz.f49) [p0]=uw L p0:=by kernel_rfl
theorem eq_103(L:bd)(p0:PV):aq (S.env L NL ar 103 Tryz.f103) [p0]=gf L p0:=by kernel_rfl
theorem eq_82(L:bd)(p0:PV):aq (S.env L NM ar 82 Tryz.f82) [p0]=fW L p0:=by kernel_rfl
theorem eq_58(L:bd)(p0:PV):aq (S.env L NN ar 58 Tryz.f58) [p0]=gE L p0:=by kernel_rfl
theorem eq_59(L:bd)(p0:PV):aq (S.env L NO ar 59 Tryz.f59) [p0]=ju L p0:=by kernel_rfl
theorem eq_14(L:bd)(p0 p1 p2:PV):aq (S.env L NP ar 14 Tryz.f14) [p0,p1,p2]=mA L p0 p1 p2:=by kernel_rfl
theorem eq_98(L:bd)(p0:PV):aq (S.env L NQ ar 98 Tryz.f98) [p0]=sE L p0:=by kernel_rfl
theorem eq_78(L:bd)(p0 p1:PV):aq (S.env L NR ar 78 Tryz.f78) [p0,p1]=yG L p0 p1:=by kernel_rfl
theorem eq_76(L:bd)(p0:PV):aq (S.env L NS ar 76 Tryz.f76) [p0]=ux L p0:=by kernel_rfl
theorem eq_46(L:bd)(p0:PV):aq (S.env L NT ar 46 Tryz.f46) [p0]=wb L p0:=by kernel_rfl
theorem eq_13(L:bd)(p0 p1:PV):aq (S.env L NU ar 13 Tryz.f13) [p0,p1]=nI L p0 p1:=by kernel_rfl
theorem eq_87(L:bd)(p0 p1 p2 p3:PV):aq (S.env L NV ar 87 Tryz.f87) [p0,p1,p2,p3]=uy L p0 p1 p2 p3:=by kernel_rfl
theorem eq_63(L:bd)(p0 p1 p2:PV):aq (S.env L NW ar 63 Tryz.f63) [p0,p1,p2]=yH L p0 p1 p2:=by kernel_rfl
theorem eq_5(L:bd)(p0 p1 p2:PV):aq (S.env L HS ar 5 Tryz.f5) [p0,p1,p2]=lN L p0 p1 p2:=by kernel_rfl
theorem eq_7(L:bd)(p0 p1 p2:PV):aq (S.env L HT ar 7 Tryz.f7) [p0,p1,p2]=mB L p0 p1 p2:=by kernel_rfl
end Go.Proofs.YtanikidijjaohaaGreat
