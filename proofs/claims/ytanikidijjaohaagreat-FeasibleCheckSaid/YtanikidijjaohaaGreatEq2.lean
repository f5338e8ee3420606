import Derived.Test.YtanikidijjaohaaGreatTab
namespace Go.Proofs.YtanikidijjaohaaGreat
open Go.Ab
set_option maxRecDepth 1000000
theorem eq_119(L:bd)(p0:PV):aq (S0.env L TY ar 119 Tryz.f119) [p0]=yb L p0:=by kernel_rfl
theorem eq_41(L:bd)(p0 p1 p2:PV):aq (S.env L TZ ar 41 Tryz.f41) [p0,p1,p2]=DC L p0 p1 p2:=by kernel_rfl
theorem eq_140(L:bd)(p0 p1 p2:PV):aq (S.env L Mn ar 140 Tryz.f140) [p0,p1,p2]=qq L p0 p1 p2:=by kernel_rfl
theorem eq_142(L:bd)(p0:PV):aq (S.env L Mo ar 142 Tryz.f142) [p0]=nd L p0:=by kernel_rfl
theorem eq_97(L:bd)(p0 p1:PV):aq (S.env L Mp ar 97 Tryz.f97) [p0,p1]=nf L p0 p1:=by kernel_rfl
theorem eq_95(L:bd)(p0 p1 p2 p3 p4:PV):aq (S.env L Mq ar 95 Tryz.f95) [p0,p1,p2,p3,p4]=DD L p0 p1 p2 p3 p4:=by kernel_rfl
theorem eq_40(L:bd)(p0:PV):aq (S.env L Mr ar 40 Tryz.f40) [p0]=rU L p0:=by kernel_rfl
theorem eq_39(L:bd)(p0:PV):aq (S.env L Ms ar 39 Tryz.f39) [p0]=vo L p0:=by kernel_rfl
theorem eq_111(L:bd)(p0 p1:PV):aq (S.env L Mt ar 111 Tryz.f111) [p0,p1]=vp L p0 p1:=by kernel_rfl
theorem eq_136(L:bd)(p0 p1:PV):aq (S.env L Mu ar 136 Tryz.f136) [p0,p1]=ng L p0 p1:=by kernel_rfl
theorem eq_110(L:bd)(p0 p1:PV):aq (S.env L Mv ar 110 Tryz.f110) [p0,p1]=vq L p0 p1:=by kernel_rfl
theorem eq_107(L:bd)(p0:PV):aq (S.env L Mw ar 107 Tryz.f107) [p0]=Ar L p0:=by kernel_rfl
theorem eq_85(L:bd)(p0 p1:PV):aq (S.env L My ar 85 Tryz.f85) [p0,p1]=rV L p0 p1:=by kernel_rfl
theorem eq_91(L:bd)(p0:PV):aq (S.env L Mz ar 91 Tryz.f91) [p0]=jP L p0:=by kernel_rfl
theorem eq_81(L:bd)(p0:PV):aq (S.env L MA ar 81 Tryz.f81) [p0]=fg L p0:=by kernel_rfl
theorem eq_84(L:bd)(p0:PV):aq (S.env L MB ar 84 Tryz.f84) [p0]=iw L p0:=by kernel_rfl
theorem eq_60(L:bd)(p0:PV):aq (S.env L MC ar 60 Tryz.f60) [p0]=fN L p0:=by kernel_rfl
theorem eq_27(L:bd)(p0 p1 p2:PV):aq (S.env L MD ar 27 Tryz.f27) [p0,p1,p2]=rW L p0 p1 p2:=by kernel_rfl
theorem eq_10(L:bd)(p0 p1:PV):aq (S.env L ME ar 10 Tryz.f10) [p0,p1]=vt L p0 p1:=by kernel_rfl
theorem eq_101(L:bd)(p0 p1 p2 p3:PV):aq (S.env L MF ar 101 Tryz.f101) [p0,p1,p2,p3]=vu L p0 p1 p2 p3:=by kernel_rfl
theorem eq_79(L:bd)(p0:PV):aq (S.env L MG ar 79 Tryz.f79) [p0]=vv L p0:=by kernel_rfl
theorem eq_75(L:bd)(p0:PV):aq (S.env L MH ar 75 Tryz.f75) [p0]=vw L p0:=by kernel_rfl
theorem eq_26(L:bd)(p0 p1:PV):aq (S.env L MI ar 26 Tryz.f26) [p0,p1]=nh L p0 p1:=by kernel_rfl
theorem eq_51(L:bd)(p0 p1 p2:PV):aq (S.env L MJ ar 51 Tryz.f51) [p0,p1,p2]=vz L p0 p1 p2:=by kernel_rfl
theorem eq_62(L:bd)(p0 p1 p2:PV):aq (S.env L MK ar 62 Tryz.f62) [p0,p1,p2]=ye L p0 p1 p2:=by kernel_rfl
theorem eq_90(L:bd)(p0 p1:PV):aq (S.env L G9 ar 90 Tryz.f90) [p0,p1]=tL L p0 p1:=by kernel_rfl
theorem eq_114(L:bd)(p0 p1 p2 p3:PV):aq (S.env L Ha ar 114 Tryz.f114) [p0,p1,p2,p3]=l9 L p0 p1 p2 p3:=by kernel_rfl
theorem eq_54(L:bd)(p0:PV):aq (S.env L Hb ar 54 Tryz.f54) [p0]=yf L p0:=by kernel_rfl
theorem eq_4(L:bd)(p0 p1 p2:PV):aq (S.env L Hc ar 4 Tryz.f4) [p0,p1,p2]=kA L p0 p1 p2:=by kernel_rfl
end Go.Proofs.YtanikidijjaohaaGreat
