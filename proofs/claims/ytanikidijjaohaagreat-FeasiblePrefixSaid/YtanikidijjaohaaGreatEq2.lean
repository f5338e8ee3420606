import Derived.Test.YtanikidijjaohaaGreatTab
namespace Go.Proofs.YtanikidijjaohaaGreat
open Go.Ab
set_option maxRecDepth 1000000
theorem eq_119(L:bd)(p0:PV):aq (S0.env L U7 ar 119 Tryz.f119) [p0]=yC L p0:=by kernel_rfl
theorem eq_41(L:bd)(p0 p1 p2:PV):aq (S.env L U8 ar 41 Tryz.f41) [p0,p1,p2]=Eo L p0 p1 p2:=by kernel_rfl
theorem eq_140(L:bd)(p0 p1 p2:PV):aq (S.env L M6 ar 140 Tryz.f140) [p0,p1,p2]=qL L p0 p1 p2:=by kernel_rfl
theorem eq_142(L:bd)(p0:PV):aq (S.env L M7 ar 142 Tryz.f142) [p0]=nD L p0:=by kernel_rfl
theorem eq_97(L:bd)(p0 p1:PV):aq (S.env L M8 ar 97 Tryz.f97) [p0,p1]=nE L p0 p1:=by kernel_rfl
theorem eq_95(L:bd)(p0 p1 p2 p3 p4:PV):aq (S.env L M9 ar 95 Tryz.f95) [p0,p1,p2,p3,p4]=Ep L p0 p1 p2 p3 p4:=by kernel_rfl
theorem eq_40(L:bd)(p0:PV):aq (S.env L Na ar 40 Tryz.f40) [p0]=sA L p0:=by kernel_rfl
theorem eq_39(L:bd)(p0:PV):aq (S.env L Nb ar 39 Tryz.f39) [p0]=vV L p0:=by kernel_rfl
theorem eq_111(L:bd)(p0 p1:PV):aq (S.env L Nc ar 111 Tryz.f111) [p0,p1]=vW L p0 p1:=by kernel_rfl
theorem eq_136(L:bd)(p0 p1:PV):aq (S.env L Nf ar 136 Tryz.f136) [p0,p1]=nF L p0 p1:=by kernel_rfl
theorem eq_110(L:bd)(p0 p1:PV):aq (S.env L Ng ar 110 Tryz.f110) [p0,p1]=vX L p0 p1:=by kernel_rfl
theorem eq_107(L:bd)(p0:PV):aq (S.env L Nh ar 107 Tryz.f107) [p0]=A0 L p0:=by kernel_rfl
theorem eq_85(L:bd)(p0 p1:PV):aq (S.env L Ni ar 85 Tryz.f85) [p0,p1]=sB L p0 p1:=by kernel_rfl
theorem eq_91(L:bd)(p0:PV):aq (S.env L Nj ar 91 Tryz.f91) [p0]=jZ L p0:=by kernel_rfl
theorem eq_81(L:bd)(p0:PV):aq (S.env L Nk ar 81 Tryz.f81) [p0]=fm L p0:=by kernel_rfl
theorem eq_84(L:bd)(p0:PV):aq (S.env L Nl ar 84 Tryz.f84) [p0]=iQ L p0:=by kernel_rfl
theorem eq_60(L:bd)(p0:PV):aq (S.env L Nn ar 60 Tryz.f60) [p0]=fV L p0:=by kernel_rfl
theorem eq_27(L:bd)(p0 p1 p2:PV):aq (S.env L Np ar 27 Tryz.f27) [p0,p1,p2]=sC L p0 p1 p2:=by kernel_rfl
theorem eq_10(L:bd)(p0 p1:PV):aq (S.env L Nq ar 10 Tryz.f10) [p0,p1]=vY L p0 p1:=by kernel_rfl
theorem eq_101(L:bd)(p0 p1 p2 p3:PV):aq (S.env L Nr ar 101 Tryz.f101) [p0,p1,p2,p3]=vZ L p0 p1 p2 p3:=by kernel_rfl
theorem eq_79(L:bd)(p0:PV):aq (S.env L Ns ar 79 Tryz.f79) [p0]=v7 L p0:=by kernel_rfl
theorem eq_75(L:bd)(p0:PV):aq (S.env L Nt ar 75 Tryz.f75) [p0]=v8 L p0:=by kernel_rfl
theorem eq_26(L:bd)(p0 p1:PV):aq (S.env L Nu ar 26 Tryz.f26) [p0,p1]=nG L p0 p1:=by kernel_rfl
theorem eq_51(L:bd)(p0 p1 p2:PV):aq (S.env L Nv ar 51 Tryz.f51) [p0,p1,p2]=wa L p0 p1 p2:=by kernel_rfl
theorem eq_62(L:bd)(p0 p1 p2:PV):aq (S.env L Ny ar 62 Tryz.f62) [p0,p1,p2]=yD L p0 p1 p2:=by kernel_rfl
theorem eq_17(L:bd)(p0 p1 p2:PV):aq (S.env L HQ ar 17 Tryz.f17) [p0,p1,p2]=A1 L p0 p1 p2:=by kernel_rfl
theorem eq_8(L:bd)(p0 p1 p2:PV):aq (S.env L HR ar 8 Tryz.f8) [p0,p1,p2]=j1 L p0 p1 p2:=by kernel_rfl
end Go.Proofs.YtanikidijjaohaaGreat
