import Derived.Test.YteddgaennnfacaaGreatTab
namespace Go.Proofs.YteddgaennnfacaaGreat
open Go.Ab
set_option maxRecDepth 1000000
theorem eq_192(L:bj)(p0 c1:PV):fm (S.env L Ym AB 192 Tryz.f192) [p0,PV.rp [c1]]=pW L p0 c1:=by kernel_rfl
theorem eq_73(L:bj)(p0:PV):qt (S.env L yI AB 73 Tryz.f73) [p0]=mL L p0:=by kernel_rfl
theorem eq_69(L:bj)(p0:PV):qt (S.env L yI QI 69 Tryz.f69) [p0]=lE L p0:=by kernel_rfl
theorem eq_60(L:bj)(c0 c1 c2 c3 c4 c5 c6 c7 c8 c9 nG nH nI Fo:PV):fm (S.env L QJ rZ 60 Tryz.f60) [PV.rp [c0,c1,c2,c3,c4,c5,c6,c7,c8,c9,nG,nH,nI],PV.rp [Fo]]=nU L c0 c1 c2 c3 c4 c5 c6 c7 c8 c9 nG nH nI Fo:=by kernel_rfl
theorem eq_5(L:bj):fm (S.env L QK AB 5 Tryz.f5) []=mM L:=by kernel_rfl
theorem eq_72(L:bj)(p0:PV):qt (S.env L yI QL 72 Tryz.f72) [p0]=jm L p0:=by kernel_rfl
theorem eq_70(L:bj)(p0:PV):qt (S.env L yI QM 70 Tryz.f70) [p0]=nV L p0:=by kernel_rfl
theorem eq_46(L:bj)(c0 c1 c2 c3 c4 c5 c6 c7 c8 c9 nG nH nI:PV):fm (S.env L QN rZ 46 Tryz.f46) [PV.rp [c0,c1,c2,c3,c4,c5,c6,c7,c8,c9,nG,nH,nI]]=nW L c0 c1 c2 c3 c4 c5 c6 c7 c8 c9 nG nH nI:=by kernel_rfl
theorem eq_48(L:bj)(c0 c1 c2 c3 c4 c5 c6 c7 c8 c9 nG nH nI:PV):fm (S.env L QO rZ 48 Tryz.f48) [PV.rp [c0,c1,c2,c3,c4,c5,c6,c7,c8,c9,nG,nH,nI]]=nX L c0 c1 c2 c3 c4 c5 c6 c7 c8 c9 nG nH nI:=by kernel_rfl
theorem eq_52(L:bj)(c0 c1 c2 c3 c4 c5 c6 c7 c8 c9 nG nH nI Fo c14 c15:PV):fm (S.env L QP rZ 52 Tryz.f52) [PV.rp [c0,c1,c2,c3,c4,c5,c6,c7,c8,c9,nG,nH,nI],PV.rp [Fo],PV.rp [c14],PV.rp [c15]]=nY L c0 c1 c2 c3 c4 c5 c6 c7 c8 c9 nG nH nI Fo c14 c15:=by kernel_rfl
theorem eq_56(L:bj)(c0 c1 c2 c3 c4 c5 c6 c7 c8 c9 nG nH nI:PV):fm (S.env L QQ rZ 56 Tryz.f56) [PV.rp [c0,c1,c2,c3,c4,c5,c6,c7,c8,c9,nG,nH,nI]]=nZ L c0 c1 c2 c3 c4 c5 c6 c7 c8 c9 nG nH nI:=by kernel_rfl
theorem eq_71(L:bj)(p0:PV):qt (S.env L yI QR 71 Tryz.f71) [p0]=mN L p0:=by kernel_rfl
theorem eq_68(L:bj)(p0:PV):qt (S.env L yI QS 68 Tryz.f68) [p0]=mO L p0:=by kernel_rfl
theorem eq_62(L:bj)(c0 c1 c2 c3 c4 c5 c6 c7 c8 c9 nG nH nI:PV):fm (S.env L QT rZ 62 Tryz.f62) [PV.rp [c0,c1,c2,c3,c4,c5,c6,c7,c8,c9,nG,nH,nI]]=mP L c0 c1 c2 c3 c4 c5 c6 c7 c8 c9 nG nH nI:=by kernel_rfl
theorem eq_54(L:bj)(c0 c1 c2 c3 c4 c5 c6 c7 c8 c9 nG nH nI:PV):fm (S.env L QU rZ 54 Tryz.f54) [PV.rp [c0,c1,c2,c3,c4,c5,c6,c7,c8,c9,nG,nH,nI]]=n9 L c0 c1 c2 c3 c4 c5 c6 c7 c8 c9 nG nH nI:=by kernel_rfl
theorem eq_148(L:bj)(p0 c1:PV):fm (S.env L QV rZ 148 Tryz.f148) [p0,PV.rp [c1]]=uo L p0 c1:=by kernel_rfl
theorem eq_15(L:bj):fm (S.env L SN AB 15 Tryz.f15) []=Cx L:=by kernel_rfl
theorem eq_202(L:bj)(c01 c02 p1 p2:PV):fm (S.env L QW AB 202 Tryz.f202) [PV.rp [PV.fn 194 [],c01,c02],p1,p2]=ek L c01 c02 p1 p2:=by kernel_rfl
theorem eq_74(L:bj)(p0:PV):qt (S.env L yI QX 74 Tryz.f74) [p0]=jO L p0:=by kernel_rfl
theorem eq_47(L:bj)(c0 c1 c2 c3 c4 c5 c6 c7 c8 c9 nG nH nI:PV):fm (S.env L QY rZ 47 Tryz.f47) [PV.rp [c0,c1,c2,c3,c4,c5,c6,c7,c8,c9,nG,nH,nI]]=oa L c0 c1 c2 c3 c4 c5 c6 c7 c8 c9 nG nH nI:=by kernel_rfl
theorem eq_50(L:bj)(c0 c1 c2 c3 c4 c5 c6 c7 c8 c9 nG nH nI Fo:PV):fm (S.env L QZ rZ 50 Tryz.f50) [PV.rp [c0,c1,c2,c3,c4,c5,c6,c7,c8,c9,nG,nH,nI],PV.rp [Fo]]=ob L c0 c1 c2 c3 c4 c5 c6 c7 c8 c9 nG nH nI Fo:=by kernel_rfl
theorem eq_58(L:bj)(c0 c1 c2 c3 c4 c5 c6 c7 c8 c9 nG nH nI Fo:PV):fm (S.env L Q0 rZ 58 Tryz.f58) [PV.rp [c0,c1,c2,c3,c4,c5,c6,c7,c8,c9,nG,nH,nI],PV.rp [Fo]]=oc L c0 c1 c2 c3 c4 c5 c6 c7 c8 c9 nG nH nI Fo:=by kernel_rfl
end Go.Proofs.YteddgaennnfacaaGreat
