import Derived.Test.YtcmhmlnkhmefbaaGreatTab
namespace Go.Proofs.YtcmhmlnkhmefbaaGreat
open Go.Ab
set_option maxRecDepth 1000000
theorem eq_102(L:bk)(p0 p1:PV):aM (S0.env L SM bR 102 Tryz.f102) [p0,p1]=nC L p0 p1:=by kernel_rfl
theorem eq_25(L:bk):aM (S.env L SN bR 25 Tryz.f25) []=Al L:=by kernel_rfl
theorem eq_94(L:bk)(p0:PV):aM (S.env L SO bR 94 Tryz.f94) [p0]=ud L p0:=by kernel_rfl
theorem eq_48(L:bk)(p0 p1 p2:PV):aM (S.env L Kf bR 48 Tryz.f48) [p0,p1,p2]=pc L p0 p1 p2:=by kernel_rfl
theorem eq_79(L:bk)(p0 p1 p2:PV):aM (S.env L Kg bR 79 Tryz.f79) [p0,p1,p2]=qQ L p0 p1 p2:=by kernel_rfl
theorem eq_121(L:bk)(p0 c1:PV):aM (S.env L Kh bR 121 Tryz.f121) [p0,PV.rp [c1]]=mw L p0 c1:=by kernel_rfl
theorem eq_110(L:bk)(p0 p1 p2:PV):aM (S.env L Ki bR 110 Tryz.f110) [p0,p1,p2]=nD L p0 p1 p2:=by kernel_rfl
theorem eq_97(L:bk)(p0 p1 p2:PV):aM (S.env L Kj bR 97 Tryz.f97) [p0,p1,p2]=kq L p0 p1 p2:=by kernel_rfl
theorem eq_47(L:bk)(p0:PV):aM (S.env L Kk bR 47 Tryz.f47) [p0]=kr L p0:=by kernel_rfl
theorem eq_46(L:bk)(p0:PV):aM (S.env L Km bR 46 Tryz.f46) [p0]=qR L p0:=by kernel_rfl
theorem eq_26(L:bk)(p0:PV):aM (S.env L Kn bR 26 Tryz.f26) [p0]=qS L p0:=by kernel_rfl
theorem eq_59(L:bk)(p0:PV):jZ (S.env L qT Ko 59 Tryz.f59) [p0]=iy L p0:=by kernel_rfl
theorem eq_12(L:bk)(p0 p1:PV):aM (S.env L qT FA 12 Tryz.f12) [p0,p1]=lx L p0 p1:=by kernel_rfl
theorem eq_15(L:bk)(p0 p1:PV):aM (S.env L Kp cd 15 Tryz.f15) [p0,p1]=mN L p0 p1:=by kernel_rfl
theorem Za(L:bk)(m0 m1 m2 m3 m4 m5 m6:List PV→Option PV):aM (S.env L [(22,m4),(39,fy),(75,cg),(15,m3),(20,m6),(85,bP),(12,m5),(26,dZ),(40,gL),(41,fY),(76,im),(46,da),(80,bw),(42,cH),(44,dm),(47,bF),(81,dn),(91,ez),(92,cZ),(97,cu),(103,dQ),(108,c7),(109,dz),(110,dq),(131,aC),(123,ec),(107,eA),(121,cB),(45,cv),(78,bT),(43,aV),(79,eV),(27,cJ),(52,fA),(51,dV),(48,bH),(49,du),(50,gM),(93,ee),(94,fi),(77,dv),(90,ku),(23,m0),(25,m2),(24,m1),(100,bt),(101,gN),(102,cS)] [(82,db),(53,cw),(55,cO),(54,ck),(59,bN),(56,cy),(57,bG),(58,cz)] 11 Tryz.f11) []=iX m0 m1 m2 m3 m4 m5 m6 L:=by kernel_rfl
theorem Zb:FB=[(22,bW),(39,fy),(75,cg),(15,bf),(20,fj),(85,bP),(12,bI),(26,dZ),(40,gL),(41,fY),(76,im),(46,da),(80,bw),(42,cH),(44,dm),(47,bF),(81,dn),(91,ez),(92,cZ),(97,cu),(103,dQ),(108,c7),(109,dz),(110,dq),(131,aC),(123,ec),(107,eA),(121,cB),(45,cv),(78,bT),(43,aV),(79,eV),(27,cJ),(52,fA),(51,dV),(48,bH),(49,du),(50,gM),(93,ee),(94,fi),(77,dv),(90,ku),(23,fK),(25,fZ),(24,iq),(100,bt),(101,gN),(102,cS)]:=by kernel_rfl
theorem Zc:cd=[(82,db),(53,cw),(55,cO),(54,ck),(59,bN),(56,cy),(57,bG),(58,cz)]:=by kernel_rfl
theorem eq_11(L:bk):aM (S.env L FB cd 11 Tryz.f11) []=kv L:=by rw[Zb,Zc];exact(Za L fK iq fZ bf bW bI fj).trans (by kernel_rfl)
theorem eq_88(L:bk)(p0 p1 p2 p3:PV):aM (S.env L Kq cd 88 Tryz.f88) [p0,p1,p2,p3]=ue L p0 p1 p2 p3:=by kernel_rfl
theorem eq_73(L:bk)(p0:PV):aM (S.env L Kr cd 73 Tryz.f73) [p0]=uf L p0:=by kernel_rfl
theorem eq_69(L:bk)(p0:PV):aM (S.env L Ks cd 69 Tryz.f69) [p0]=ug L p0:=by kernel_rfl
theorem eq_13(L:bk)(p0 p1:PV):aM (S.env L Kt cd 13 Tryz.f13) [p0,p1]=sK L p0 p1:=by kernel_rfl
theorem eq_68(L:bk)(p0 p1:PV):aM (S.env L Ku cd 68 Tryz.f68) [p0,p1]=nE L p0 p1:=by kernel_rfl
theorem eq_65(L:bk)(p0:PV):aM (S.env L Kv cd 65 Tryz.f65) [p0]=qU L p0:=by kernel_rfl
theorem eq_64(L:bk)(p0 p1 p2 p3:PV):aM (S.env L Kw cd 64 Tryz.f64) [p0,p1,p2,p3]=uh L p0 p1 p2 p3:=by kernel_rfl
theorem eq_35(L:bk)(p0 p1:PV):aM (S.env L Kx cd 35 Tryz.f35) [p0,p1]=pd L p0 p1:=by kernel_rfl
end Go.Proofs.YtcmhmlnkhmefbaaGreat
