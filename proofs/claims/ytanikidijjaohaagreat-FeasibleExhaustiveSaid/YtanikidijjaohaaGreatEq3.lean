import Derived.Test.YtanikidijjaohaaGreatTab
namespace Go.Proofs.YtanikidijjaohaaGreat
open Go.Ab
set_option maxRecDepth 1000000
theorem eq_118(L:aX)(p0 p1:PV):al (S0.env L Xu ar 118 Tryz.f118) [p0,p1]=mI L p0 p1:=by kernel_rfl
theorem eq_71(L:aX)(p0 p1:PV):al (S.env L Xv ar 71 Tryz.f71) [p0,p1]=sj L p0 p1:=by kernel_rfl
theorem eq_156(L:aX)(p0 p1:PV):al (S.env L PQ ar 156 Tryz.f156) [p0,p1]=tS L p0 p1:=by kernel_rfl
theorem eq_141(L:aX)(p0 p1:PV):al (S.env L PR ar 141 Tryz.f141) [p0,p1]=mJ L p0 p1:=by kernel_rfl
theorem eq_96(L:aX)(p0 p1:PV):al (S.env L PS ar 96 Tryz.f96) [p0,p1]=sk L p0 p1:=by kernel_rfl
theorem eq_70(L:aX)(p0 p1 p2 p3:PV):al (S.env L PT ar 70 Tryz.f70) [p0,p1,p2,p3]=Ai L p0 p1 p2 p3:=by kernel_rfl
theorem eq_73(L:aX)(p0 p1 p2:PV):al (S.env L PU ar 73 Tryz.f73) [p0,p1,p2]=sl L p0 p1 p2:=by kernel_rfl
theorem eq_38(L:aX)(p0:PV):al (S.env L PW ar 38 Tryz.f38) [p0]=Aj L p0:=by kernel_rfl
theorem eq_127(L:aX)(p0 p1 p2:PV):al (S.env L PX ar 127 Tryz.f127) [p0,p1,p2]=oO L p0 p1 p2:=by kernel_rfl
theorem eq_138(L:aX)(p0 p1:PV):al (S.env L PY ar 138 Tryz.f138) [p0,p1]=nr L p0 p1:=by kernel_rfl
theorem eq_109(L:aX)(p0 p1:PV):al (S.env L PZ ar 109 Tryz.f109) [p0,p1]=vN L p0 p1:=by kernel_rfl
theorem eq_108(L:aX)(p0 p1:PV):al (S.env L P0 ar 108 Tryz.f108) [p0,p1]=sm L p0 p1:=by kernel_rfl
theorem eq_49(L:aX)(p0:PV):al (S.env L P1 ar 49 Tryz.f49) [p0]=vO L p0:=by kernel_rfl
theorem eq_103(L:aX)(p0:PV):al (S.env L P2 ar 103 Tryz.f103) [p0]=gH L p0:=by kernel_rfl
theorem eq_82(L:aX)(p0:PV):al (S.env L P3 ar 82 Tryz.f82) [p0]=gu L p0:=by kernel_rfl
theorem eq_58(L:aX)(p0:PV):al (S.env L P4 ar 58 Tryz.f58) [p0]=ig L p0:=by kernel_rfl
theorem eq_59(L:aX)(p0:PV):al (S.env L P5 ar 59 Tryz.f59) [p0]=j1 L p0:=by kernel_rfl
theorem eq_14(L:aX)(p0 p1 p2:PV):al (S.env L P6 ar 14 Tryz.f14) [p0,p1,p2]=kE L p0 p1 p2:=by kernel_rfl
theorem eq_98(L:aX)(p0:PV):al (S.env L P7 ar 98 Tryz.f98) [p0]=tT L p0:=by kernel_rfl
theorem eq_78(L:aX)(p0 p1:PV):al (S.env L P8 ar 78 Tryz.f78) [p0,p1]=Ak L p0 p1:=by kernel_rfl
theorem eq_76(L:aX)(p0:PV):al (S.env L P9 ar 76 Tryz.f76) [p0]=vP L p0:=by kernel_rfl
theorem eq_46(L:aX)(p0:PV):al (S.env L Qa ar 46 Tryz.f46) [p0]=xM L p0:=by kernel_rfl
theorem eq_13(L:aX)(p0 p1:PV):al (S.env L Qb ar 13 Tryz.f13) [p0,p1]=oP L p0 p1:=by kernel_rfl
theorem eq_87(L:aX)(p0 p1 p2 p3:PV):al (S.env L Qc ar 87 Tryz.f87) [p0,p1,p2,p3]=vQ L p0 p1 p2 p3:=by kernel_rfl
theorem eq_63(L:aX)(p0 p1 p2:PV):al (S.env L Qd ar 63 Tryz.f63) [p0,p1,p2]=Al L p0 p1 p2:=by kernel_rfl
theorem eq_128(L:aX)(p0:PV):al (S.env L JR ar 128 Tryz.f128) [p0]=Am L p0:=by kernel_rfl
theorem eq_89(L:aX)(p0 p1:PV):al (S.env L JS ar 89 Tryz.f89) [p0,p1]=xO L p0 p1:=by kernel_rfl
theorem eq_55(L:aX)(p0 p1 p2:PV):al (S.env L JT ar 55 Tryz.f55) [p0,p1,p2]=An L p0 p1 p2:=by kernel_rfl
theorem eq_20(L:aX)(p0:PV):al (S.env L JU ar 20 Tryz.f20) [p0]=xR L p0:=by kernel_rfl
theorem eq_33(L:aX)(p0 p1 p2:PV):al (S.env L Eo vK 33 Tryz.f33) [p0,p1,p2]=sn L p0 p1 p2:=by kernel_rfl
theorem eq_36(L:aX)(p0 p1 p2:PV):al (S.env L JV vK 36 Tryz.f36) [p0,p1,p2]=tU L p0 p1 p2:=by kernel_rfl
end Go.Proofs.YtanikidijjaohaaGreat
