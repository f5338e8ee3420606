import Derived.Test.YtcmhmlnkhmefbaaGreatTab
namespace Go.Proofs.YtcmhmlnkhmefbaaGreat
open Go.Ab
set_option maxRecDepth 1000000
theorem eq_102(L:bk)(p0 p1:PV):aL (S0.env L S9 bR 102 Tryz.f102) [p0,p1]=nH L p0 p1:=by kernel_rfl
theorem eq_25(L:bk):aL (S.env L Ta bR 25 Tryz.f25) []=Ag L:=by kernel_rfl
theorem eq_94(L:bk)(p0:PV):aL (S.env L Tb bR 94 Tryz.f94) [p0]=uf L p0:=by kernel_rfl
theorem eq_48(L:bk)(p0 p1 p2:PV):aL (S.env L Kt bR 48 Tryz.f48) [p0,p1,p2]=pz L p0 p1 p2:=by kernel_rfl
theorem eq_79(L:bk)(p0 p1 p2:PV):aL (S.env L Ku bR 79 Tryz.f79) [p0,p1,p2]=qU L p0 p1 p2:=by kernel_rfl
theorem eq_121(L:bk)(p0 c1:PV):aL (S.env L Kv bR 121 Tryz.f121) [p0,PV.rp [c1]]=my L p0 c1:=by kernel_rfl
theorem eq_110(L:bk)(p0 p1 p2:PV):aL (S.env L Kw bR 110 Tryz.f110) [p0,p1,p2]=nI L p0 p1 p2:=by kernel_rfl
theorem eq_97(L:bk)(p0 p1 p2:PV):aL (S.env L Kx bR 97 Tryz.f97) [p0,p1,p2]=kq L p0 p1 p2:=by kernel_rfl
theorem eq_47(L:bk)(p0:PV):aL (S.env L Ky bR 47 Tryz.f47) [p0]=kr L p0:=by kernel_rfl
theorem eq_46(L:bk)(p0:PV):aL (S.env L Kz bR 46 Tryz.f46) [p0]=qV L p0:=by kernel_rfl
theorem eq_26(L:bk)(p0:PV):aL (S.env L KA bR 26 Tryz.f26) [p0]=qW L p0:=by kernel_rfl
theorem eq_59(L:bk)(p0:PV):j3 (S.env L qX KB 59 Tryz.f59) [p0]=iy L p0:=by kernel_rfl
theorem eq_12(L:bk)(p0 p1:PV):aL (S.env L qX FN 12 Tryz.f12) [p0,p1]=lx L p0 p1:=by kernel_rfl
theorem eq_15(L:bk)(p0 p1:PV):aL (S.env L KC bX 15 Tryz.f15) [p0,p1]=mQ L p0 p1:=by kernel_rfl
theorem Zt(L:bk)(m0 m1 m2 m3 m4 m5 m6:List PV→Option PV):aL (S.env L [(22,m4),(39,fx),(75,cj),(15,m3),(20,m6),(85,bP),(12,m5),(26,ec),(40,gL),(41,fX),(76,iq),(46,db),(80,bw),(42,cH),(44,dp),(47,bG),(81,dq),(91,ez),(92,c7),(97,cu),(103,dR),(108,c8),(109,dA),(110,dr),(131,aD),(123,ee),(107,eA),(121,cB),(45,cv),(78,bT),(43,aV),(79,eX),(27,cJ),(52,fy),(51,dW),(48,bJ),(49,dv),(50,gM),(93,ef),(94,fi),(77,dw),(90,ku),(23,m0),(25,m2),(24,m1),(100,bt),(101,gN),(102,cS)] [(82,dc),(53,cw),(55,cO),(54,ck),(59,bN),(56,cy),(57,bH),(58,cz)] 11 Tryz.f11) []=iY m0 m1 m2 m3 m4 m5 m6 L:=by kernel_rfl
theorem Zu:FO=[(22,bY),(39,fx),(75,cj),(15,bl),(20,dN),(85,bP),(12,bK),(26,ec),(40,gL),(41,fX),(76,iq),(46,db),(80,bw),(42,cH),(44,dp),(47,bG),(81,dq),(91,ez),(92,c7),(97,cu),(103,dR),(108,c8),(109,dA),(110,dr),(131,aD),(123,ee),(107,eA),(121,cB),(45,cv),(78,bT),(43,aV),(79,eX),(27,cJ),(52,fy),(51,dW),(48,bJ),(49,dv),(50,gM),(93,ef),(94,fi),(77,dw),(90,ku),(23,fK),(25,fY),(24,ir),(100,bt),(101,gN),(102,cS)]:=by kernel_rfl
theorem Zv:bX=[(82,dc),(53,cw),(55,cO),(54,ck),(59,bN),(56,cy),(57,bH),(58,cz)]:=by kernel_rfl
theorem eq_11(L:bk):aL (S.env L FO bX 11 Tryz.f11) []=kv L:=by rw[Zu,Zv];exact(Zt L fK ir fY bl bY bK dN).trans (by kernel_rfl)
theorem eq_88(L:bk)(p0 p1 p2 p3:PV):aL (S.env L KD bX 88 Tryz.f88) [p0,p1,p2,p3]=ug L p0 p1 p2 p3:=by kernel_rfl
theorem eq_73(L:bk)(p0:PV):aL (S.env L KE bX 73 Tryz.f73) [p0]=uh L p0:=by kernel_rfl
theorem eq_69(L:bk)(p0:PV):aL (S.env L KF bX 69 Tryz.f69) [p0]=ui L p0:=by kernel_rfl
theorem eq_13(L:bk)(p0 p1:PV):aL (S.env L KG bX 13 Tryz.f13) [p0,p1]=sK L p0 p1:=by kernel_rfl
theorem eq_68(L:bk)(p0 p1:PV):aL (S.env L KH bX 68 Tryz.f68) [p0,p1]=nJ L p0 p1:=by kernel_rfl
theorem eq_65(L:bk)(p0:PV):aL (S.env L KI bX 65 Tryz.f65) [p0]=qY L p0:=by kernel_rfl
theorem eq_64(L:bk)(p0 p1 p2 p3:PV):aL (S.env L KJ bX 64 Tryz.f64) [p0,p1,p2,p3]=uj L p0 p1 p2 p3:=by kernel_rfl
theorem eq_35(L:bk)(p0 p1:PV):aL (S.env L KK bX 35 Tryz.f35) [p0,p1]=pA L p0 p1:=by kernel_rfl
end Go.Proofs.YtcmhmlnkhmefbaaGreat
