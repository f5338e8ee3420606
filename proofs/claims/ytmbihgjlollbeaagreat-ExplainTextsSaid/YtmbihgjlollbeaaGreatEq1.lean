import Derived.Test.YtmbihgjlollbeaaGreatTab
namespace Go.Proofs.YtmbihgjlollbeaaGreat
open Go.Ab
set_option maxRecDepth 1000000
theorem eq_238(L:aL)(p0 p1:PV):ab (S0.env L Vv ae 238 Tryz.f238) [p0,p1]=ow L p0 p1:=by kernel_rfl
theorem eq_130(L:aL)(p0:PV):ab (S.env L Vw ae 130 Tryz.f130) [p0]=zU L p0:=by kernel_rfl
theorem eq_184(L:aL)(p0 p1 p2:PV):ab (S.env L Vx ae 184 Tryz.f184) [p0,p1,p2]=vR L p0 p1 p2:=by kernel_rfl
theorem eq_76(L:aL)(p0 p1:PV):ab (S.env L ND ae 76 Tryz.f76) [p0,p1]=oQ L p0 p1:=by kernel_rfl
theorem eq_79(L:aL)(p0 p1 p2:PV):ab (S.env L NF ae 79 Tryz.f79) [p0,p1,p2]=oR L p0 p1 p2:=by kernel_rfl
theorem eq_118(L:aL)(p0 p1 p2:PV):ab (S.env L NG ae 118 Tryz.f118) [p0,p1,p2]=uB L p0 p1 p2:=by kernel_rfl
theorem eq_99(L:aL)(p0:PV):ab (S.env L NH ae 99 Tryz.f99) [p0]=kR L p0:=by kernel_rfl
theorem eq_270(L:aL)(c01 c02 p1 p2:PV):ab (S.env L NI ae 270 Tryz.f270) [PV.rp [PV.fn 262 [],c01,c02],p1,p2]=dS L c01 c02 p1 p2:=by kernel_rfl
theorem eq_242(L:aL)(p0 p1:PV):ab (S.env L NJ ae 242 Tryz.f242) [p0,p1]=tR L p0 p1:=by kernel_rfl
theorem eq_157(L:aL)(p0 p1:PV):ab (S.env L NK ae 157 Tryz.f157) [p0,p1]=l0 L p0 p1:=by kernel_rfl
theorem eq_105(L:aL)(p0:PV):ab (S.env L NL ae 105 Tryz.f105) [p0]=vS L p0:=by kernel_rfl
theorem eq_66(L:aL)(p0:PV):ab (S.env L NM ae 66 Tryz.f66) [p0]=sc L p0:=by kernel_rfl
theorem eq_38(L:aL)(p0:PV):ab (S.env L NN ae 38 Tryz.f38) [p0]=sd L p0:=by kernel_rfl
theorem eq_225(L:aL)(p0 p1 p2:PV):ab (S.env L NO ae 225 Tryz.f225) [p0,p1,p2]=B6 L p0 p1 p2:=by kernel_rfl
theorem eq_220(L:aL)(p0 p1 p2:PV):ab (S.env L NP ae 220 Tryz.f220) [p0,p1,p2]=xH L p0 p1 p2:=by kernel_rfl
theorem eq_71(L:aL)(p0 p1:PV):ab (S.env L NQ ae 71 Tryz.f71) [p0,p1]=Eo L p0 p1:=by kernel_rfl
theorem eq_176(L:aL)(p0 p1:PV):ab (S.env L NR ae 176 Tryz.f176) [p0,p1]=uC L p0 p1:=by kernel_rfl
theorem eq_24(L:aL)(p0 p1 p2:PV):ab (S.env L NS ae 24 Tryz.f24) [p0,p1,p2]=tP L p0 p1 p2:=by kernel_rfl
theorem eq_217(L:aL)(p0 p1:PV):ab (S.env L NT ae 217 Tryz.f217) [p0,p1]=lu L p0 p1:=by kernel_rfl
theorem eq_218(L:aL)(p0:PV):ab (S.env L NU ae 218 Tryz.f218) [p0]=lv L p0:=by kernel_rfl
theorem eq_211(L:aL)(p0:PV):ab (S.env L NV ae 211 Tryz.f211) [p0]=iS L p0:=by kernel_rfl
theorem eq_171(L:aL)(p0:PV):ab (S.env L NW ae 171 Tryz.f171) [p0]=nS L p0:=by kernel_rfl
theorem eq_47(L:aL)(c0 c1 c2 c3 c4 c5 c6 c7 c8 c9 lG lH lI:PV):ab (S.env L NX ae 47 Tryz.f47) [PV.rp [c0,c1,c2,c3,c4,c5,c6,c7,c8,c9,lG,lH,lI]]=rr L c0 c1 c2 c3 c4 c5 c6 c7 c8 c9 lG lH lI:=by kernel_rfl
theorem eq_51(L:aL)(c0 c1 c2 c3 c4 c5 c6 c7 c8 c9 lG lH lI:PV):ab (S.env L NY ae 51 Tryz.f51) [PV.rp [c0,c1,c2,c3,c4,c5,c6,c7,c8,c9,lG,lH,lI]]=ry L c0 c1 c2 c3 c4 c5 c6 c7 c8 c9 lG lH lI:=by kernel_rfl
theorem eq_55(L:aL)(c0 c1 c2 c3 c4 c5 c6 c7 c8 c9 lG lH lI A4 c14 c15:PV):ab (S.env L NZ ae 55 Tryz.f55) [PV.rp [c0,c1,c2,c3,c4,c5,c6,c7,c8,c9,lG,lH,lI],PV.rp [A4],PV.rp [c14],PV.rp [c15]]=rz L c0 c1 c2 c3 c4 c5 c6 c7 c8 c9 lG lH lI A4 c14 c15:=by kernel_rfl
theorem eq_58(L:aL)(p0 p1:PV):ab (S.env L Hv ae 58 Tryz.f58) [p0,p1]=uD L p0 p1:=by kernel_rfl
theorem eq_167(L:aL)(p0 p1:PV):ab (S.env L Hw ae 167 Tryz.f167) [p0,p1]=xI L p0 p1:=by kernel_rfl
theorem eq_60(L:aL)(p0 p1 p2:PV):ab (S.env L Hx ae 60 Tryz.f60) [p0,p1,p2]=xJ L p0 p1 p2:=by kernel_rfl
theorem eq_115(L:aL)(p0 p1 p2:PV):ab (S.env L Hy ae 115 Tryz.f115) [p0,p1,p2]=xK L p0 p1 p2:=by kernel_rfl
theorem eq_63(L:aL)(c0 c1 c2 c3 c4 c5 c6 c7 c8 c9 lG lH lI A4:PV):ab (S.env L Hz ae 63 Tryz.f63) [PV.rp [c0,c1,c2,c3,c4,c5,c6,c7,c8,c9,lG,lH,lI],PV.rp [A4]]=rA L c0 c1 c2 c3 c4 c5 c6 c7 c8 c9 lG lH lI A4:=by kernel_rfl
theorem eq_40(L:aL)(p0:PV):ab (S.env L HA ae 40 Tryz.f40) [p0]=ou L p0:=by kernel_rfl
theorem eq_15(L:aL)(p0 p1 p2:PV):ab (S.env L HB ae 15 Tryz.f15) [p0,p1,p2]=pf L p0 p1 p2:=by kernel_rfl
theorem eq_21(L:aL):ab (S.env L HC ae 21 Tryz.f21) []=zV L:=by kernel_rfl
theorem eq_206(L:aL)(p0 p1 p2:PV):ab (S.env L HD ae 206 Tryz.f206) [p0,p1,p2]=Ep L p0 p1 p2:=by kernel_rfl
theorem eq_239(L:aL)(p0 p1 p2:PV):ab (S.env L HE ae 239 Tryz.f239) [p0,p1,p2]=qu L p0 p1 p2:=by kernel_rfl
theorem eq_207(L:aL)(p0 p1 p2 p3:PV):ab (S.env L HF ae 207 Tryz.f207) [p0,p1,p2,p3]=vT L p0 p1 p2 p3:=by kernel_rfl
theorem eq_42(L:aL)(p0:PV):ab (S.env L HG ae 42 Tryz.f42) [p0]=vU L p0:=by kernel_rfl
theorem eq_18(L:aL)(p0 p1:PV):ab (S.env L HH ae 18 Tryz.f18) [p0,p1]=Er L p0 p1:=by kernel_rfl
theorem eq_16(L:aL)(p0 p1 p2:PV):ab (S.env L HI ae 16 Tryz.f16) [p0,p1,p2]=yE L p0 p1 p2:=by kernel_rfl
end Go.Proofs.YtmbihgjlollbeaaGreat
