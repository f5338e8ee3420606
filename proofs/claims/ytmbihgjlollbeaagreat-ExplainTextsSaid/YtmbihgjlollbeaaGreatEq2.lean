import Derived.Test.YtmbihgjlollbeaaGreatTab
namespace Go.Proofs.YtmbihgjlollbeaaGreat
open Go.Ab
set_option maxRecDepth 1000000
theorem eq_237(L:aL)(p0:PV):ab (S0.env L Vy ae 237 Tryz.f237) [p0]=yF L p0:=by kernel_rfl
theorem eq_78(L:aL)(p0 p1 p2 p3:PV):ab (S.env L Vz ae 78 Tryz.f78) [p0,p1,p2,p3]=uE L p0 p1 p2 p3:=by kernel_rfl
theorem eq_129(L:aL)(p0 p1 p2:PV):ab (S.env L N0 ae 129 Tryz.f129) [p0,p1,p2]=uF L p0 p1 p2:=by kernel_rfl
theorem eq_75(L:aL)(p0 p1:PV):ab (S.env L N1 ae 75 Tryz.f75) [p0,p1]=qv L p0 p1:=by kernel_rfl
theorem eq_26(L:aL)(p0:PV):ab (S.env L N2 ae 26 Tryz.f26) [p0]=xL L p0:=by kernel_rfl
theorem eq_156(L:aL)(p0 p1 p2:PV):ab (S.env L N3 ae 156 Tryz.f156) [p0,p1,p2]=se L p0 p1 p2:=by kernel_rfl
theorem eq_260(L:aL)(p0 c1:PV):ab (S.env L N4 ae 260 Tryz.f260) [p0,PV.rp [c1]]=mY L p0 c1:=by kernel_rfl
theorem eq_249(L:aL)(p0 p1 p2:PV):ab (S.env L N5 ae 249 Tryz.f249) [p0,p1,p2]=oz L p0 p1 p2:=by kernel_rfl
theorem eq_233(L:aL)(p0 p1 p2:PV):ab (S.env L N6 ae 233 Tryz.f233) [p0,p1,p2]=kS L p0 p1 p2:=by kernel_rfl
theorem eq_100(L:aL)(p0:PV):ab (S.env L N7 ae 100 Tryz.f100) [p0]=kT L p0:=by kernel_rfl
theorem eq_98(L:aL)(p0:PV):ab (S.env L N8 ae 98 Tryz.f98) [p0]=l5 L p0:=by kernel_rfl
theorem eq_106(L:aL)(p0:PV):ab (S.env L N9 ae 106 Tryz.f106) [p0]=vV L p0:=by kernel_rfl
theorem eq_67(L:aL)(p0 p1:PV):ab (S.env L Oa ae 67 Tryz.f67) [p0,p1]=jW L p0 p1:=by kernel_rfl
theorem eq_180(L:aL)(p0 p1 p2 p3:PV):ab (S.env L Ob ae 180 Tryz.f180) [p0,p1,p2,p3]=sW L p0 p1 p2 p3:=by kernel_rfl
theorem eq_179(L:aL)(p0 p1:PV):ab (S.env L Oc ae 179 Tryz.f179) [p0,p1]=vW L p0 p1:=by kernel_rfl
theorem eq_177(L:aL)(p0:PV):ab (S.env L Od ae 177 Tryz.f177) [p0]=Es L p0:=by kernel_rfl
theorem eq_121(L:aL)(p0 p1:PV):ab (S.env L Oe ae 121 Tryz.f121) [p0,p1]=xM L p0 p1:=by kernel_rfl
theorem eq_69(L:aL)(p0 p1 p2:PV):ab (S.env L Of ae 69 Tryz.f69) [p0,p1,p2]=tQ L p0 p1 p2:=by kernel_rfl
theorem eq_174(L:aL)(p0:PV):ab (S.env L Og ae 174 Tryz.f174) [p0]=lx L p0:=by kernel_rfl
theorem eq_219(L:aL)(p0 p1:PV):ab (S.env L Oh ae 219 Tryz.f219) [p0,p1]=mK L p0 p1:=by kernel_rfl
theorem eq_240(L:aL)(p0:PV):ab (S.env L Oi ae 240 Tryz.f240) [p0]=l6 L p0:=by kernel_rfl
theorem eq_119(L:aL)(p0:PV):ab (S.env L Oj ae 119 Tryz.f119) [p0]=l7 L p0:=by kernel_rfl
theorem eq_65(L:aL)(c0 c1 c2 c3 c4 c5 c6 c7 c8 c9 lG lH lI:PV):ab (S.env L Ol ae 65 Tryz.f65) [PV.rp [c0,c1,c2,c3,c4,c5,c6,c7,c8,c9,lG,lH,lI]]=qw L c0 c1 c2 c3 c4 c5 c6 c7 c8 c9 lG lH lI:=by kernel_rfl
theorem eq_54(L:aL)(p0 p1:PV):ab (S.env L Om ae 54 Tryz.f54) [p0,p1]=kn L p0 p1:=by kernel_rfl
theorem eq_111(L:aL)(p0:PV):ab (S.env L On ae 111 Tryz.f111) [p0]=uG L p0:=by kernel_rfl
theorem eq_57(L:aL)(c0 c1 c2 c3 c4 c5 c6 c7 c8 c9 lG lH lI:PV):ab (S.env L HJ ae 57 Tryz.f57) [PV.rp [c0,c1,c2,c3,c4,c5,c6,c7,c8,c9,lG,lH,lI]]=rB L c0 c1 c2 c3 c4 c5 c6 c7 c8 c9 lG lH lI:=by kernel_rfl
theorem eq_114(L:aL)(p0 p1 p2:PV):ab (S.env L HK ae 114 Tryz.f114) [p0,p1,p2]=xR L p0 p1 p2:=by kernel_rfl
theorem eq_59(L:aL)(c0 c1 c2 c3 c4 c5 c6 c7 c8 c9 lG lH lI:PV):ab (S.env L HL ae 59 Tryz.f59) [PV.rp [c0,c1,c2,c3,c4,c5,c6,c7,c8,c9,lG,lH,lI]]=rC L c0 c1 c2 c3 c4 c5 c6 c7 c8 c9 lG lH lI:=by kernel_rfl
theorem eq_62(L:aL)(p0 p1 p2 p3:PV):ab (S.env L HM ae 62 Tryz.f62) [p0,p1,p2,p3]=ly L p0 p1 p2 p3:=by kernel_rfl
theorem eq_22(L:aL)(p0:PV):ab (S.env L HN ae 22 Tryz.f22) [p0]=uH L p0:=by kernel_rfl
theorem eq_39(L:aL)(p0 p1 p2:PV):ab (S.env L HO ae 39 Tryz.f39) [p0,p1,p2]=qp L p0 p1 p2:=by kernel_rfl
theorem eq_13(L:aL)(p0 p1 p2 p3 p4:PV):ab (S.env L HP ae 13 Tryz.f13) [p0,p1,p2,p3,p4]=qt L p0 p1 p2 p3 p4:=by kernel_rfl
theorem eq_12(L:aL)(p0 p1:PV):ab (S.env L HQ ae 12 Tryz.f12) [p0,p1]=Et L p0 p1:=by kernel_rfl
theorem eq_45(L:aL)(p0:PV):ab (S.env L HR ae 45 Tryz.f45) [p0]=B7 L p0:=by kernel_rfl
theorem eq_163(L:aL)(p0:PV):ab (S.env L HS ae 163 Tryz.f163) [p0]=vX L p0:=by kernel_rfl
theorem eq_209(L:aL)(p0 p1:PV):ab (S.env L HT ae 209 Tryz.f209) [p0,p1]=tS L p0 p1:=by kernel_rfl
theorem eq_160(L:aL)(p0 p1:PV):ab (S.env L HU ae 160 Tryz.f160) [p0,p1]=A5 L p0 p1:=by kernel_rfl
theorem eq_8(L:aL)(p0 p1 p2:PV):ab (S.env L HV ae 8 Tryz.f8) [p0,p1,p2]=B8 L p0 p1 p2:=by kernel_rfl
theorem eq_104(L:aL)(p0:PV):ab (S.env L HW ae 104 Tryz.f104) [p0]=B9 L p0:=by kernel_rfl
theorem eq_5(L:aL)(p0 p1:PV):ab (S.env L HX ae 5 Tryz.f5) [p0,p1]=qx L p0 p1:=by kernel_rfl
end Go.Proofs.YtmbihgjlollbeaaGreat
