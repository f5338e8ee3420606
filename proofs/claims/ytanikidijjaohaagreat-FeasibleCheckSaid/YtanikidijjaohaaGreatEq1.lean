import Derived.Test.YtanikidijjaohaaGreatTab
namespace Go.Proofs.YtanikidijjaohaaGreat
open Go.Ab
set_option maxRecDepth 1000000
theorem eq_120(L:bd)(p0 p1:PV):aq (S0.env L TV ar 120 Tryz.f120) [p0,p1]=oG L p0 p1:=by kernel_rfl
theorem eq_72(L:bd)(p0 p1 p2:PV):aq (S.env L TW ar 72 Tryz.f72) [p0,p1,p2]=rS L p0 p1 p2:=by kernel_rfl
theorem eq_154(L:bd)(p0 c1:PV):aq (S.env L TX ar 154 Tryz.f154) [p0,PV.rp [c1]]=nb L p0 c1:=by kernel_rfl
theorem eq_143(L:bd)(p0 p1 p2:PV):aq (S.env L LZ ar 143 Tryz.f143) [p0,p1,p2]=oH L p0 p1 p2:=by kernel_rfl
theorem eq_115(L:bd)(p0 p1 p2:PV):aq (S.env L L2 ar 115 Tryz.f115) [p0,p1,p2]=lz L p0 p1 p2:=by kernel_rfl
theorem eq_45(L:bd)(p0:PV):aq (S.env L L3 ar 45 Tryz.f45) [p0]=lA L p0:=by kernel_rfl
theorem eq_42(L:bd)(p0:PV):aq (S.env L L4 ar 42 Tryz.f42) [p0]=l8 L p0:=by kernel_rfl
theorem eq_69(L:bd)(p0:PV):aq (S.env L L5 ar 69 Tryz.f69) [p0]=vj L p0:=by kernel_rfl
theorem eq_12(L:bd)(p0 p1:PV):aq (S.env L L6 ar 12 Tryz.f12) [p0,p1]=kz L p0 p1:=by kernel_rfl
theorem eq_126(L:bd)(p0 p1 p2 p3:PV):aq (S.env L L7 ar 126 Tryz.f126) [p0,p1,p2,p3]=nc L p0 p1 p2 p3:=by kernel_rfl
theorem eq_125(L:bd)(p0 p1:PV):aq (S.env L L8 ar 125 Tryz.f125) [p0,p1]=qp L p0 p1:=by kernel_rfl
theorem eq_123(L:bd)(p0:PV):aq (S.env L L9 ar 123 Tryz.f123) [p0]=xY L p0:=by kernel_rfl
theorem eq_106(L:bd)(p0 p1:PV):aq (S.env L Ma ar 106 Tryz.f106) [p0,p1]=rT L p0 p1:=by kernel_rfl
theorem eq_28(L:bd)(p0 p1 p2:PV):aq (S.env L Mb ar 28 Tryz.f28) [p0,p1,p2]=tH L p0 p1 p2:=by kernel_rfl
theorem eq_83(L:bd)(p0:PV):aq (S.env L Mc ar 83 Tryz.f83) [p0]=eN L p0:=by kernel_rfl
theorem eq_94(L:bd)(p0 p1:PV):aq (S.env L Md ar 94 Tryz.f94) [p0,p1]=iZ L p0 p1:=by kernel_rfl
theorem eq_92(L:bd)(p0:PV):aq (S.env L Me ar 92 Tryz.f92) [p0]=iu L p0:=by kernel_rfl
theorem eq_48(L:bd)(p0:PV):aq (S.env L Mf ar 48 Tryz.f48) [p0]=iv L p0:=by kernel_rfl
theorem eq_11(L:bd):aq (S.env L Mg ar 11 Tryz.f11) []=lB L:=by kernel_rfl
theorem eq_80(L:bd)(p0:PV):aq (S.env L Mh ar 80 Tryz.f80) [p0]=vk L p0:=by kernel_rfl
theorem eq_102(L:bd)(p0 p1:PV):aq (S.env L Mi ar 102 Tryz.f102) [p0,p1]=tI L p0 p1:=by kernel_rfl
theorem eq_77(L:bd)(p0 p1:PV):aq (S.env L Mj ar 77 Tryz.f77) [p0,p1]=Aq L p0 p1:=by kernel_rfl
theorem eq_47(L:bd)(p0 p1 p2:PV):aq (S.env L Mk ar 47 Tryz.f47) [p0,p1,p2]=DA L p0 p1 p2:=by kernel_rfl
theorem eq_53(L:bd)(p0 p1 p2:PV):aq (S.env L Ml ar 53 Tryz.f53) [p0,p1,p2]=xZ L p0 p1 p2:=by kernel_rfl
theorem eq_61(L:bd)(p0 p1:PV):aq (S.env L Mm ar 61 Tryz.f61) [p0,p1]=tJ L p0 p1:=by kernel_rfl
theorem eq_29(L:bd)(p0 p1 p2 p3:PV):aq (S.env L G5 ar 29 Tryz.f29) [p0,p1,p2,p3]=DB L p0 p1 p2 p3:=by kernel_rfl
theorem eq_113(L:bd)(p0 p1 p2 p3:PV):aq (S.env L G6 ar 113 Tryz.f113) [p0,p1,p2,p3]=tK L p0 p1 p2 p3:=by kernel_rfl
theorem eq_88(L:bd)(p0 p1:PV):aq (S.env L G7 ar 88 Tryz.f88) [p0,p1]=vl L p0 p1:=by kernel_rfl
theorem eq_15(L:bd)(p0 p1 p2:PV):aq (S.env L G8 ar 15 Tryz.f15) [p0,p1,p2]=vn L p0 p1 p2:=by kernel_rfl
end Go.Proofs.YtanikidijjaohaaGreat
