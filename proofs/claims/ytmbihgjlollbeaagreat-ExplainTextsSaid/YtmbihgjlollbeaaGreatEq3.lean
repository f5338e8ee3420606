import Derived.Test.YtmbihgjlollbeaaGreatTab
namespace Go.Proofs.YtmbihgjlollbeaaGreat
open Go.Ab
set_option maxRecDepth 1000000
theorem eq_236(L:aL)(p0 p1:PV):ab (S0.env L VA ae 236 Tryz.f236) [p0,p1]=kU L p0 p1:=by kernel_rfl
theorem eq_74(L:aL)(p0 p1 p2 p3:PV):ab (S.env L VB ae 74 Tryz.f74) [p0,p1,p2,p3]=uI L p0 p1 p2 p3:=by kernel_rfl
theorem eq_77(L:aL)(p0 p1:PV):ab (S.env L Oo ae 77 Tryz.f77) [p0,p1]=uJ L p0 p1:=by kernel_rfl
theorem eq_29(L:aL)(p0 p1 p2:PV):ab (S.env L Oq ae 29 Tryz.f29) [p0,p1,p2]=uK L p0 p1 p2:=by kernel_rfl
theorem eq_131(L:aL)(p0 p1 p2 p3:PV):ab (S.env L Ot ae 131 Tryz.f131) [p0,p1,p2,p3]=oS L p0 p1 p2 p3:=by kernel_rfl
theorem eq_97(L:aL)(p0 p1 p2:PV):ab (S.env L Ou ae 97 Tryz.f97) [p0,p1,p2]=Eu L p0 p1 p2:=by kernel_rfl
theorem eq_246(L:aL)(p0 p1 p2:PV):ab (S.env L Ov ae 246 Tryz.f246) [p0,p1,p2]=qy L p0 p1 p2:=by kernel_rfl
theorem eq_248(L:aL)(p0:PV):ab (S.env L Ow ae 248 Tryz.f248) [p0]=mZ L p0:=by kernel_rfl
theorem eq_204(L:aL)(p0 p1:PV):ab (S.env L Ox ae 204 Tryz.f204) [p0,p1]=na L p0 p1:=by kernel_rfl
theorem eq_164(L:aL)(p0 p1 p2 p3 p4:PV):ab (S.env L Oy ae 164 Tryz.f164) [p0,p1,p2,p3,p4]=Ev L p0 p1 p2 p3 p4:=by kernel_rfl
theorem eq_96(L:aL)(p0:PV):ab (S.env L Oz ae 96 Tryz.f96) [p0]=sf L p0:=by kernel_rfl
theorem eq_50(L:aL)(p0:PV):ab (S.env L OA ae 50 Tryz.f50) [p0]=vY L p0:=by kernel_rfl
theorem eq_126(L:aL)(p0 p1:PV):ab (S.env L OB ae 126 Tryz.f126) [p0,p1]=Ca L p0 p1:=by kernel_rfl
theorem eq_222(L:aL)(p0 p1:PV):ab (S.env L OC ae 222 Tryz.f222) [p0,p1]=sX L p0 p1:=by kernel_rfl
theorem eq_125(L:aL)(p0 p1:PV):ab (S.env L OD ae 125 Tryz.f125) [p0,p1]=Cb L p0 p1:=by kernel_rfl
theorem eq_122(L:aL)(p0:PV):ab (S.env L OE ae 122 Tryz.f122) [p0]=Gx L p0:=by kernel_rfl
theorem eq_70(L:aL)(p0 p1:PV):ab (S.env L OG ae 70 Tryz.f70) [p0,p1]=sa L p0 p1:=by kernel_rfl
theorem eq_215(L:aL)(p0:PV):ab (S.env L OH ae 215 Tryz.f215) [p0]=nT L p0:=by kernel_rfl
theorem eq_172(L:aL)(p0:PV):ab (S.env L OI ae 172 Tryz.f172) [p0]=l8 L p0:=by kernel_rfl
theorem eq_175(L:aL)(p0:PV):ab (S.env L OJ ae 175 Tryz.f175) [p0]=l9 L p0:=by kernel_rfl
theorem eq_214(L:aL)(p0:PV):ab (S.env L OK ae 214 Tryz.f214) [p0]=mL L p0:=by kernel_rfl
theorem eq_68(L:aL)(p0 p1 p2:PV):ab (S.env L OL ae 68 Tryz.f68) [p0,p1,p2]=xS L p0 p1 p2:=by kernel_rfl
theorem eq_49(L:aL)(c0 c1 c2 c3 c4 c5 c6 c7 c8 c9 lG lH lI:PV):ab (S.env L OM ae 49 Tryz.f49) [PV.rp [c0,c1,c2,c3,c4,c5,c6,c7,c8,c9,lG,lH,lI]]=rD L c0 c1 c2 c3 c4 c5 c6 c7 c8 c9 lG lH lI:=by kernel_rfl
theorem eq_53(L:aL)(c0 c1 c2 c3 c4 c5 c6 c7 c8 c9 lG lH lI A4:PV):ab (S.env L ON ae 53 Tryz.f53) [PV.rp [c0,c1,c2,c3,c4,c5,c6,c7,c8,c9,lG,lH,lI],PV.rp [A4]]=rE L c0 c1 c2 c3 c4 c5 c6 c7 c8 c9 lG lH lI A4:=by kernel_rfl
theorem eq_165(L:aL)(p0:PV):ab (S.env L OO ae 165 Tryz.f165) [p0]=vZ L p0:=by kernel_rfl
theorem eq_113(L:aL)(p0 p1:PV):ab (S.env L HY ae 113 Tryz.f113) [p0,p1]=uL L p0 p1:=by kernel_rfl
theorem eq_166(L:aL)(p0 c1:PV):ab (S.env L HZ ae 166 Tryz.f166) [p0,PV.rp [c1]]=wa L p0 c1:=by kernel_rfl
theorem eq_168(L:aL)(p0 p1:PV):ab (S.env L H0 ae 168 Tryz.f168) [p0,p1]=rF L p0 p1:=by kernel_rfl
theorem eq_61(L:aL)(c0 c1 c2 c3 c4 c5 c6 c7 c8 c9 lG lH lI A4:PV):ab (S.env L H2 ae 61 Tryz.f61) [PV.rp [c0,c1,c2,c3,c4,c5,c6,c7,c8,c9,lG,lH,lI],PV.rp [A4]]=rG L c0 c1 c2 c3 c4 c5 c6 c7 c8 c9 lG lH lI A4:=by kernel_rfl
theorem eq_10(L:aL)(p0 p1 p2 p3:PV):ab (S.env L H3 ae 10 Tryz.f10) [p0,p1,p2,p3]=sb L p0 p1 p2 p3:=by kernel_rfl
theorem eq_102(L:aL)(p0 p1:PV):ab (S.env L H4 ae 102 Tryz.f102) [p0,p1]=ov L p0 p1:=by kernel_rfl
theorem eq_19(L:aL):ab (S.env L H5 ae 19 Tryz.f19) []=uM L:=by kernel_rfl
theorem eq_9(L:aL):ab (S.env L H6 ae 9 Tryz.f9) []=kQ L:=by kernel_rfl
theorem eq_46(L:aL)(p0:PV):ab (S.env L H7 ae 46 Tryz.f46) [p0]=Cc L p0:=by kernel_rfl
theorem eq_208(L:aL)(p0 p1 p2 p3:PV):ab (S.env L H8 ae 208 Tryz.f208) [p0,p1,p2,p3]=wb L p0 p1 p2 p3:=by kernel_rfl
theorem eq_162(L:aL)(p0:PV):ab (S.env L H9 ae 162 Tryz.f162) [p0]=we L p0:=by kernel_rfl
theorem eq_158(L:aL)(p0:PV):ab (S.env L Ia ae 158 Tryz.f158) [p0]=wg L p0:=by kernel_rfl
theorem eq_43(L:aL)(p0:PV):ab (S.env L Ib ae 43 Tryz.f43) [p0]=tM L p0:=by kernel_rfl
end Go.Proofs.YtmbihgjlollbeaaGreat
