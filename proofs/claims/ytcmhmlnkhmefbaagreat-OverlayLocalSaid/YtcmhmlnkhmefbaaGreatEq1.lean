import Derived.Test.YtcmhmlnkhmefbaaGreatTab
namespace Go.Proofs.YtcmhmlnkhmefbaaGreat
open Go.Ab
set_option maxRecDepth 1000000
theorem eq_102(L:bC)(p0 p1:PV):aQ (S0.env L RI bU 102 Tryz.f102) [p0,p1]=np L p0 p1:=by kernel_rfl
theorem eq_25(L:bC):aQ (S.env L RJ bU 25 Tryz.f25) []=zD L:=by kernel_rfl
theorem eq_94(L:bC)(p0:PV):aQ (S.env L RL bU 94 Tryz.f94) [p0]=tO L p0:=by kernel_rfl
theorem eq_48(L:bC)(p0 p1 p2:PV):aQ (S.env L Jt bU 48 Tryz.f48) [p0,p1,p2]=oO L p0 p1 p2:=by kernel_rfl
theorem eq_79(L:bC)(p0 p1 p2:PV):aQ (S.env L Ju bU 79 Tryz.f79) [p0,p1,p2]=qz L p0 p1 p2:=by kernel_rfl
theorem eq_121(L:bC)(p0 c1:PV):aQ (S.env L Jv bU 121 Tryz.f121) [p0,PV.rp [c1]]=l9 L p0 c1:=by kernel_rfl
theorem eq_110(L:bC)(p0 p1 p2:PV):aQ (S.env L Jw bU 110 Tryz.f110) [p0,p1,p2]=nq L p0 p1 p2:=by kernel_rfl
theorem eq_97(L:bC)(p0 p1 p2:PV):aQ (S.env L Jx bU 97 Tryz.f97) [p0,p1,p2]=j6 L p0 p1 p2:=by kernel_rfl
theorem eq_47(L:bC)(p0:PV):aQ (S.env L Jy bU 47 Tryz.f47) [p0]=j7 L p0:=by kernel_rfl
theorem eq_46(L:bC)(p0:PV):aQ (S.env L Jz bU 46 Tryz.f46) [p0]=qA L p0:=by kernel_rfl
theorem eq_26(L:bC)(p0:PV):aQ (S.env L JA bU 26 Tryz.f26) [p0]=qB L p0:=by kernel_rfl
theorem eq_59(L:bC)(p0:PV):kQ (S.env L qC JB 59 Tryz.f59) [p0]=iq L p0:=by kernel_rfl
theorem eq_12(L:bC)(p0 p1:PV):aQ (S.env L qC ER 12 Tryz.f12) [p0,p1]=la L p0 p1:=by kernel_rfl
theorem eq_15(L:bC)(p0 p1:PV):aQ (S.env L JC dM 15 Tryz.f15) [p0,p1]=my L p0 p1:=by kernel_rfl
theorem XE(L:bC)(m0 m1 m2 m3 m4 m5 m6:List PV→Option PV):aQ (S.env L [(22,m4),(39,fp),(75,cj),(15,m3),(20,m6),(85,bQ),(12,m5),(26,ec),(40,gL),(41,fU),(76,ig),(46,dc),(80,bu),(42,cM),(44,dq),(47,bG),(81,dr),(91,eC),(92,c8),(97,cv),(103,dV),(108,c9),(109,dC),(110,dt),(131,aD),(123,ee),(107,eD),(121,cD),(45,cw),(78,bX),(43,aU),(79,eW),(27,cN),(52,fq),(51,dX),(48,bI),(49,dv),(50,gM),(93,ef),(94,fb),(77,dy),(90,j8),(23,m0),(25,m2),(24,m1),(100,bq),(101,gN),(102,cW)] [(82,dd),(53,cy),(55,cT),(54,ck),(59,bO),(56,cz),(57,bH),(58,cA)] 11 Tryz.f11) []=iW m0 m1 m2 m3 m4 m5 m6 L:=by kernel_rfl
theorem XF:ES=[(22,bK),(39,fp),(75,cj),(15,aZ),(20,fe),(85,bQ),(12,bw),(26,ec),(40,gL),(41,fU),(76,ig),(46,dc),(80,bu),(42,cM),(44,dq),(47,bG),(81,dr),(91,eC),(92,c8),(97,cv),(103,dV),(108,c9),(109,dC),(110,dt),(131,aD),(123,ee),(107,eD),(121,cD),(45,cw),(78,bX),(43,aU),(79,eW),(27,cN),(52,fq),(51,dX),(48,bI),(49,dv),(50,gM),(93,ef),(94,fb),(77,dy),(90,j8),(23,fI),(25,fV),(24,ij),(100,bq),(101,gN),(102,cW)]:=by kernel_rfl
theorem XG:dM=[(82,dd),(53,cy),(55,cT),(54,ck),(59,bO),(56,cz),(57,bH),(58,cA)]:=by kernel_rfl
theorem eq_11(L:bC):aQ (S.env L ES dM 11 Tryz.f11) []=j9 L:=by rw[XF,XG];exact(XE L fI ij fV aZ bK bw fe).trans (by kernel_rfl)
theorem eq_88(L:bC)(p0 p1 p2 p3:PV):aQ (S.env L JD dM 88 Tryz.f88) [p0,p1,p2,p3]=tP L p0 p1 p2 p3:=by kernel_rfl
theorem eq_73(L:bC)(p0:PV):aQ (S.env L JE dM 73 Tryz.f73) [p0]=tQ L p0:=by kernel_rfl
theorem eq_69(L:bC)(p0:PV):aQ (S.env L JF dM 69 Tryz.f69) [p0]=tR L p0:=by kernel_rfl
theorem eq_68(L:bC)(p0 p1:PV):aQ (S.env L JG dM 68 Tryz.f68) [p0,p1]=nr L p0 p1:=by kernel_rfl
end Go.Proofs.YtcmhmlnkhmefbaaGreat
