import Derived.Test.YtanikidijjaohaaGreatTab
namespace Go.Proofs.YtanikidijjaohaaGreat
open Go.Ab
set_option maxRecDepth 1000000
theorem eq_119(L:aX)(p0:PV):al (S0.env L Xs ar 119 Tryz.f119) [p0]=Af L p0:=by kernel_rfl
theorem eq_41(L:aX)(p0 p1 p2:PV):al (S.env L Xt ar 41 Tryz.f41) [p0,p1,p2]=F1 L p0 p1 p2:=by kernel_rfl
theorem eq_140(L:aX)(p0 p1 p2:PV):al (S.env L Pt ar 140 Tryz.f140) [p0,p1,p2]=sg L p0 p1 p2:=by kernel_rfl
theorem eq_142(L:aX)(p0:PV):al (S.env L Pu ar 142 Tryz.f142) [p0]=oK L p0:=by kernel_rfl
theorem eq_97(L:aX)(p0 p1:PV):al (S.env L Pv ar 97 Tryz.f97) [p0,p1]=oL L p0 p1:=by kernel_rfl
theorem eq_95(L:aX)(p0 p1 p2 p3 p4:PV):al (S.env L Pw ar 95 Tryz.f95) [p0,p1,p2,p3,p4]=F2 L p0 p1 p2 p3 p4:=by kernel_rfl
theorem eq_40(L:aX)(p0:PV):al (S.env L Px ar 40 Tryz.f40) [p0]=tP L p0:=by kernel_rfl
theorem eq_39(L:aX)(p0:PV):al (S.env L Py ar 39 Tryz.f39) [p0]=xD L p0:=by kernel_rfl
theorem eq_111(L:aX)(p0 p1:PV):al (S.env L Pz ar 111 Tryz.f111) [p0,p1]=xE L p0 p1:=by kernel_rfl
theorem eq_136(L:aX)(p0 p1:PV):al (S.env L PA ar 136 Tryz.f136) [p0,p1]=oM L p0 p1:=by kernel_rfl
theorem eq_110(L:aX)(p0 p1:PV):al (S.env L PB ar 110 Tryz.f110) [p0,p1]=xF L p0 p1:=by kernel_rfl
theorem eq_107(L:aX)(p0:PV):al (S.env L PC ar 107 Tryz.f107) [p0]=Cp L p0:=by kernel_rfl
theorem eq_85(L:aX)(p0 p1:PV):al (S.env L PD ar 85 Tryz.f85) [p0,p1]=tQ L p0 p1:=by kernel_rfl
theorem eq_91(L:aX)(p0:PV):al (S.env L PE ar 91 Tryz.f91) [p0]=kD L p0:=by kernel_rfl
theorem eq_81(L:aX)(p0:PV):al (S.env L PF ar 81 Tryz.f81) [p0]=fG L p0:=by kernel_rfl
theorem eq_84(L:aX)(p0:PV):al (S.env L PG ar 84 Tryz.f84) [p0]=jz L p0:=by kernel_rfl
theorem eq_60(L:aX)(p0:PV):al (S.env L PH ar 60 Tryz.f60) [p0]=gr L p0:=by kernel_rfl
theorem eq_27(L:aX)(p0 p1 p2:PV):al (S.env L PI ar 27 Tryz.f27) [p0,p1,p2]=tR L p0 p1 p2:=by kernel_rfl
theorem eq_101(L:aX)(p0 p1 p2 p3:PV):al (S.env L PJ ar 101 Tryz.f101) [p0,p1,p2,p3]=xG L p0 p1 p2 p3:=by kernel_rfl
theorem eq_79(L:aX)(p0:PV):al (S.env L PK ar 79 Tryz.f79) [p0]=xH L p0:=by kernel_rfl
theorem eq_75(L:aX)(p0:PV):al (S.env L PL ar 75 Tryz.f75) [p0]=xI L p0:=by kernel_rfl
theorem eq_26(L:aX)(p0 p1:PV):al (S.env L PM ar 26 Tryz.f26) [p0,p1]=oN L p0 p1:=by kernel_rfl
theorem eq_51(L:aX)(p0 p1 p2:PV):al (S.env L PN ar 51 Tryz.f51) [p0,p1,p2]=xJ L p0 p1 p2:=by kernel_rfl
theorem eq_62(L:aX)(p0 p1 p2:PV):al (S.env L PO ar 62 Tryz.f62) [p0,p1,p2]=Ag L p0 p1 p2:=by kernel_rfl
theorem eq_90(L:aX)(p0 p1:PV):al (S.env L JM ar 90 Tryz.f90) [p0,p1]=vM L p0 p1:=by kernel_rfl
theorem eq_114(L:aX)(p0 p1 p2 p3:PV):al (S.env L JN ar 114 Tryz.f114) [p0,p1,p2,p3]=nq L p0 p1 p2 p3:=by kernel_rfl
theorem eq_54(L:aX)(p0:PV):al (S.env L JO ar 54 Tryz.f54) [p0]=Ah L p0:=by kernel_rfl
theorem eq_64(L:aX)(p0 p1 p2:PV):Eh (S.env L Eo ar 64 Tryz.f64) [p0,p1,p2]=si L p0 p1 p2:=by kernel_rfl
theorem eq_65(L:aX)(p0:PV):al (S.env L JP vK 65 Tryz.f65) [p0]=xK L p0:=by kernel_rfl
theorem eq_9(L:aX)(p0 p1:PV):al (S.env L JQ vK 9 Tryz.f9) [p0,p1]=ic L p0 p1:=by kernel_rfl
end Go.Proofs.YtanikidijjaohaaGreat
