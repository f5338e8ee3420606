import Derived.Test.YtcmhmlnkhmefbaaGreatTab
namespace Go.Proofs.YtcmhmlnkhmefbaaGreat
open Go.Ab
set_option maxRecDepth 1000000
theorem eq_102(L:bB)(p0 p1:PV):aQ (S0.env L RC bS 102 Tryz.f102) [p0,p1]=nf L p0 p1:=by kernel_rfl
theorem eq_25(L:bB):aQ (S.env L RD bS 25 Tryz.f25) []=zA L:=by kernel_rfl
theorem eq_94(L:bB)(p0:PV):aQ (S.env L RE bS 94 Tryz.f94) [p0]=tN L p0:=by kernel_rfl
theorem eq_48(L:bB)(p0 p1 p2:PV):aQ (S.env L Jp bS 48 Tryz.f48) [p0,p1,p2]=oN L p0 p1 p2:=by kernel_rfl
theorem eq_79(L:bB)(p0 p1 p2:PV):aQ (S.env L Jq bS 79 Tryz.f79) [p0,p1,p2]=qx L p0 p1 p2:=by kernel_rfl
theorem eq_121(L:bB)(p0 c1:PV):aQ (S.env L Jr bS 121 Tryz.f121) [p0,PV.rp [c1]]=l6 L p0 c1:=by kernel_rfl
theorem eq_110(L:bB)(p0 p1 p2:PV):aQ (S.env L Js bS 110 Tryz.f110) [p0,p1,p2]=ng L p0 p1 p2:=by kernel_rfl
theorem eq_97(L:bB)(p0 p1 p2:PV):aQ (S.env L Jt bS 97 Tryz.f97) [p0,p1,p2]=j4 L p0 p1 p2:=by kernel_rfl
theorem eq_47(L:bB)(p0:PV):aQ (S.env L Ju bS 47 Tryz.f47) [p0]=j5 L p0:=by kernel_rfl
theorem eq_46(L:bB)(p0:PV):aQ (S.env L Jv bS 46 Tryz.f46) [p0]=qy L p0:=by kernel_rfl
theorem eq_26(L:bB)(p0:PV):aQ (S.env L Jw bS 26 Tryz.f26) [p0]=qz L p0:=by kernel_rfl
theorem eq_59(L:bB)(p0:PV):kN (S.env L qA Jx 59 Tryz.f59) [p0]=ig L p0:=by kernel_rfl
theorem eq_12(L:bB)(p0 p1:PV):aQ (S.env L qA EM 12 Tryz.f12) [p0,p1]=kZ L p0 p1:=by kernel_rfl
theorem eq_15(L:bB)(p0 p1:PV):aQ (S.env L Jy dK 15 Tryz.f15) [p0,p1]=mq L p0 p1:=by kernel_rfl
theorem Xy(L:bB)(m0 m1 m2 m3 m4 m5 m6:List PV→Option PV):aQ (S.env L [(22,m4),(39,fm),(75,cj),(15,m3),(20,m6),(85,bP),(12,m5),(26,dZ),(40,gI),(41,fS),(76,hT),(46,dc),(80,bt),(42,cL),(44,dq),(47,bF),(81,dr),(91,eB),(92,c7),(97,cv),(103,dS),(108,c8),(109,dC),(110,dt),(131,aD),(123,ec),(107,eC),(121,cC),(45,cw),(78,bW),(43,aU),(79,eT),(27,cM),(52,fo),(51,dW),(48,bH),(49,dv),(50,gJ),(93,ee),(94,e8),(77,dx),(90,j6),(23,m0),(25,m2),(24,m1),(100,bq),(101,gK),(102,cV)] [(82,dd),(53,cy),(55,cR),(54,ck),(59,bN),(56,cz),(57,bG),(58,cA)] 11 Tryz.f11) []=iS m0 m1 m2 m3 m4 m5 m6 L:=by kernel_rfl
theorem Xz:EN=[(22,bY),(39,fm),(75,cj),(15,aY),(20,e9),(85,bP),(12,bI),(26,dZ),(40,gI),(41,fS),(76,hT),(46,dc),(80,bt),(42,cL),(44,dq),(47,bF),(81,dr),(91,eB),(92,c7),(97,cv),(103,dS),(108,c8),(109,dC),(110,dt),(131,aD),(123,ec),(107,eC),(121,cC),(45,cw),(78,bW),(43,aU),(79,eT),(27,cM),(52,fo),(51,dW),(48,bH),(49,dv),(50,gJ),(93,ee),(94,e8),(77,dx),(90,j6),(23,fG),(25,fT),(24,hU),(100,bq),(101,gK),(102,cV)]:=by kernel_rfl
theorem XA:dK=[(82,dd),(53,cy),(55,cR),(54,ck),(59,bN),(56,cz),(57,bG),(58,cA)]:=by kernel_rfl
theorem eq_11(L:bB):aQ (S.env L EN dK 11 Tryz.f11) []=j7 L:=by rw[Xz,XA];exact(Xy L fG hU fT aY bY bI e9).trans (by kernel_rfl)
theorem eq_88(L:bB)(p0 p1 p2 p3:PV):aQ (S.env L Jz dK 88 Tryz.f88) [p0,p1,p2,p3]=tO L p0 p1 p2 p3:=by kernel_rfl
theorem eq_73(L:bB)(p0:PV):aQ (S.env L JA dK 73 Tryz.f73) [p0]=tP L p0:=by kernel_rfl
theorem eq_69(L:bB)(p0:PV):aQ (S.env L JB dK 69 Tryz.f69) [p0]=tQ L p0:=by kernel_rfl
theorem eq_68(L:bB)(p0 p1:PV):aQ (S.env L JC dK 68 Tryz.f68) [p0,p1]=nh L p0 p1:=by kernel_rfl
end Go.Proofs.YtcmhmlnkhmefbaaGreat
