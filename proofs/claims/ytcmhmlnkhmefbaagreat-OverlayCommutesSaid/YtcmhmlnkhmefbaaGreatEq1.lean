import Derived.Test.YtcmhmlnkhmefbaaGreatTab
namespace Go.Proofs.YtcmhmlnkhmefbaaGreat
open Go.Ab
set_option maxRecDepth 1000000
theorem eq_102(L:bA)(p0 p1:PV):aP (S0.env L RH bS 102 Tryz.f102) [p0,p1]=ng L p0 p1:=by kernel_rfl
theorem eq_25(L:bA):aP (S.env L RI bS 25 Tryz.f25) []=zw L:=by kernel_rfl
theorem eq_94(L:bA)(p0:PV):aP (S.env L RJ bS 94 Tryz.f94) [p0]=tI L p0:=by kernel_rfl
theorem eq_48(L:bA)(p0 p1 p2:PV):aP (S.env L JA bS 48 Tryz.f48) [p0,p1,p2]=oL L p0 p1 p2:=by kernel_rfl
theorem eq_79(L:bA)(p0 p1 p2:PV):aP (S.env L JB bS 79 Tryz.f79) [p0,p1,p2]=qw L p0 p1 p2:=by kernel_rfl
theorem eq_121(L:bA)(p0 c1:PV):aP (S.env L JC bS 121 Tryz.f121) [p0,PV.rp [c1]]=l5 L p0 c1:=by kernel_rfl
theorem eq_110(L:bA)(p0 p1 p2:PV):aP (S.env L JD bS 110 Tryz.f110) [p0,p1,p2]=nh L p0 p1 p2:=by kernel_rfl
theorem eq_97(L:bA)(p0 p1 p2:PV):aP (S.env L JE bS 97 Tryz.f97) [p0,p1,p2]=jY L p0 p1 p2:=by kernel_rfl
theorem eq_47(L:bA)(p0:PV):aP (S.env L JF bS 47 Tryz.f47) [p0]=jZ L p0:=by kernel_rfl
theorem eq_46(L:bA)(p0:PV):aP (S.env L JG bS 46 Tryz.f46) [p0]=qx L p0:=by kernel_rfl
theorem eq_26(L:bA)(p0:PV):aP (S.env L JH bS 26 Tryz.f26) [p0]=qy L p0:=by kernel_rfl
theorem eq_59(L:bA)(p0:PV):kL (S.env L qz JI 59 Tryz.f59) [p0]=hZ L p0:=by kernel_rfl
theorem eq_12(L:bA)(p0 p1:PV):aP (S.env L qz EO 12 Tryz.f12) [p0,p1]=kX L p0 p1:=by kernel_rfl
theorem eq_15(L:bA)(p0 p1:PV):aP (S.env L JJ dJ 15 Tryz.f15) [p0,p1]=mo L p0 p1:=by kernel_rfl
theorem XM(L:bA)(m0 m1 m2 m3 m4 m5 m6:List PV→Option PV):aP (S.env L [(22,m4),(39,fl),(75,cg),(15,m3),(20,m6),(85,bP),(12,m5),(26,dY),(40,gI),(41,fT),(76,gZ),(46,da),(80,bu),(42,cL),(44,dm),(47,bE),(81,dn),(91,eA),(92,cZ),(97,cu),(103,dR),(108,c7),(109,dA),(110,dq),(131,aC),(123,dZ),(107,eB),(121,cB),(45,cv),(78,bU),(43,aT),(79,eT),(27,cM),(52,fm),(51,dV),(48,bG),(49,dt),(50,gJ),(93,ec),(94,e9),(77,dv),(90,j3),(23,m0),(25,m2),(24,m1),(100,bq),(101,gK),(102,cU)] [(82,db),(53,cw),(55,cQ),(54,cj),(59,bN),(56,cy),(57,bF),(58,cz)] 11 Tryz.f11) []=iR m0 m1 m2 m3 m4 m5 m6 L:=by kernel_rfl
theorem XN:EP=[(22,bX),(39,fl),(75,cg),(15,bg),(20,du),(85,bP),(12,bH),(26,dY),(40,gI),(41,fT),(76,gZ),(46,da),(80,bu),(42,cL),(44,dm),(47,bE),(81,dn),(91,eA),(92,cZ),(97,cu),(103,dR),(108,c7),(109,dA),(110,dq),(131,aC),(123,dZ),(107,eB),(121,cB),(45,cv),(78,bU),(43,aT),(79,eT),(27,cM),(52,fm),(51,dV),(48,bG),(49,dt),(50,gJ),(93,ec),(94,e9),(77,dv),(90,j3),(23,fG),(25,fU),(24,hT),(100,bq),(101,gK),(102,cU)]:=by kernel_rfl
theorem XO:dJ=[(82,db),(53,cw),(55,cQ),(54,cj),(59,bN),(56,cy),(57,bF),(58,cz)]:=by kernel_rfl
theorem eq_11(L:bA):aP (S.env L EP dJ 11 Tryz.f11) []=j4 L:=by rw[XN,XO];exact(XM L fG hT fU bg bX bH du).trans (by kernel_rfl)
theorem eq_88(L:bA)(p0 p1 p2 p3:PV):aP (S.env L JK dJ 88 Tryz.f88) [p0,p1,p2,p3]=tJ L p0 p1 p2 p3:=by kernel_rfl
theorem eq_73(L:bA)(p0:PV):aP (S.env L JL dJ 73 Tryz.f73) [p0]=tK L p0:=by kernel_rfl
theorem eq_69(L:bA)(p0:PV):aP (S.env L JM dJ 69 Tryz.f69) [p0]=tL L p0:=by kernel_rfl
theorem eq_68(L:bA)(p0 p1:PV):aP (S.env L JN dJ 68 Tryz.f68) [p0,p1]=ni L p0 p1:=by kernel_rfl
theorem eq_8(L:bA)(p0 p1 p2:PV):aP (S.env L JO dJ 8 Tryz.f8) [p0,p1,p2]=ic L p0 p1 p2:=by kernel_rfl
end Go.Proofs.YtcmhmlnkhmefbaaGreat
