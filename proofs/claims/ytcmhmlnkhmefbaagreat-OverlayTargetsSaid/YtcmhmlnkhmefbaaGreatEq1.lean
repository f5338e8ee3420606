import Derived.Test.YtcmhmlnkhmefbaaGreatTab
namespace Go.Proofs.YtcmhmlnkhmefbaaGreat
open Go.Ab
set_option maxRecDepth 1000000
theorem eq_102(L:bL)(p0 p1:PV):aR (S0.env L QH bR 102 Tryz.f102) [p0,p1]=mR L p0 p1:=by kernel_rfl
theorem eq_25(L:bL):aR (S.env L QI bR 25 Tryz.f25) []=yY L:=by kernel_rfl
theorem eq_94(L:bL)(p0:PV):aR (S.env L QJ bR 94 Tryz.f94) [p0]=tg L p0:=by kernel_rfl
theorem eq_48(L:bL)(p0 p1 p2:PV):aR (S.env L IL bR 48 Tryz.f48) [p0,p1,p2]=ou L p0 p1 p2:=by kernel_rfl
theorem eq_79(L:bL)(p0 p1 p2:PV):aR (S.env L IM bR 79 Tryz.f79) [p0,p1,p2]=pU L p0 p1 p2:=by kernel_rfl
theorem eq_121(L:bL)(p0 c1:PV):aR (S.env L IP bR 121 Tryz.f121) [p0,PV.rp [c1]]=lP L p0 c1:=by kernel_rfl
theorem eq_110(L:bL)(p0 p1 p2:PV):aR (S.env L IQ bR 110 Tryz.f110) [p0,p1,p2]=mS L p0 p1 p2:=by kernel_rfl
theorem eq_97(L:bL)(p0 p1 p2:PV):aR (S.env L IU bR 97 Tryz.f97) [p0,p1,p2]=jR L p0 p1 p2:=by kernel_rfl
theorem eq_47(L:bL)(p0:PV):aR (S.env L IV bR 47 Tryz.f47) [p0]=jS L p0:=by kernel_rfl
theorem eq_46(L:bL)(p0:PV):aR (S.env L IW bR 46 Tryz.f46) [p0]=pV L p0:=by kernel_rfl
theorem eq_26(L:bL)(p0:PV):aR (S.env L IX bR 26 Tryz.f26) [p0]=pW L p0:=by kernel_rfl
theorem eq_59(L:bL)(p0:PV):kC (S.env L pX IY 59 Tryz.f59) [p0]=gQ L p0:=by kernel_rfl
theorem eq_12(L:bL)(p0 p1:PV):aR (S.env L pX Ee 12 Tryz.f12) [p0,p1]=kP L p0 p1:=by kernel_rfl
theorem eq_15(L:bL)(p0 p1:PV):aR (S.env L IZ eL 15 Tryz.f15) [p0,p1]=l9 L p0 p1:=by kernel_rfl
theorem Wp(L:bL)(m0 m1 m2 m3 m4 m5 m6:List PV→Option PV):aR (S.env L [(22,m4),(39,fk),(75,ca),(15,m3),(20,m6),(85,bO),(12,m5),(26,dW),(40,gx),(41,fO),(76,gN),(46,db),(80,bq),(42,cK),(44,dp),(47,bE),(81,dq),(91,ey),(92,cZ),(97,cu),(103,dO),(108,c7),(109,dA),(110,dr),(131,ay),(123,dX),(107,ez),(121,cA),(45,cv),(78,bT),(43,aP),(79,eT),(27,cL),(52,fl),(51,dS),(48,bG),(49,du),(50,gy),(93,dY),(94,e8),(77,dw),(90,jT),(23,m0),(25,m2),(24,m1),(100,bm),(101,gz),(102,cT)] [(82,dc),(53,cw),(55,cP),(54,cg),(59,bM),(56,cy),(57,bF),(58,cz)] 11 Tryz.f11) []=iF m0 m1 m2 m3 m4 m5 m6 L:=by kernel_rfl
theorem Wq:Ef=[(22,bV),(39,fk),(75,ca),(15,aY),(20,e9),(85,bO),(12,br),(26,dW),(40,gx),(41,fO),(76,gN),(46,db),(80,bq),(42,cK),(44,dp),(47,bE),(81,dq),(91,ey),(92,cZ),(97,cu),(103,dO),(108,c7),(109,dA),(110,dr),(131,ay),(123,dX),(107,ez),(121,cA),(45,cv),(78,bT),(43,aP),(79,eT),(27,cL),(52,fl),(51,dS),(48,bG),(49,du),(50,gy),(93,dY),(94,e8),(77,dw),(90,jT),(23,fE),(25,fP),(24,gO),(100,bm),(101,gz),(102,cT)]:=by kernel_rfl
theorem Wr:eL=[(82,dc),(53,cw),(55,cP),(54,cg),(59,bM),(56,cy),(57,bF),(58,cz)]:=by kernel_rfl
theorem eq_11(L:bL):aR (S.env L Ef eL 11 Tryz.f11) []=jU L:=by rw[Wq,Wr];exact(Wp L fE gO fP aY bV br e9).trans (by kernel_rfl)
theorem eq_88(L:bL)(p0 p1 p2 p3:PV):aR (S.env L I0 eL 88 Tryz.f88) [p0,p1,p2,p3]=th L p0 p1 p2 p3:=by kernel_rfl
theorem eq_73(L:bL)(p0:PV):aR (S.env L I1 eL 73 Tryz.f73) [p0]=ti L p0:=by kernel_rfl
theorem eq_69(L:bL)(p0:PV):aR (S.env L I2 eL 69 Tryz.f69) [p0]=tl L p0:=by kernel_rfl
theorem eq_13(L:bL)(p0 p1:PV):aR (S.env L I3 eL 13 Tryz.f13) [p0,p1]=rA L p0 p1:=by kernel_rfl
end Go.Proofs.YtcmhmlnkhmefbaaGreat
