import Derived.Test.YtcmhmlnkhmefbaaGreatTab
namespace Go.Proofs.YtcmhmlnkhmefbaaGreat
open Go.Ab
set_option maxRecDepth 1000000
theorem eq_102(L:bx)(p0 p1:PV):aQ (S0.env L Rr bS 102 Tryz.f102) [p0,p1]=nh L p0 p1:=by kernel_rfl
theorem eq_25(L:bx):aQ (S.env L Rs bS 25 Tryz.f25) []=zt L:=by kernel_rfl
theorem eq_94(L:bx)(p0:PV):aQ (S.env L Rt bS 94 Tryz.f94) [p0]=tH L p0:=by kernel_rfl
theorem eq_48(L:bx)(p0 p1 p2:PV):aQ (S.env L Jh bS 48 Tryz.f48) [p0,p1,p2]=oL L p0 p1 p2:=by kernel_rfl
theorem eq_79(L:bx)(p0 p1 p2:PV):aQ (S.env L Ji bS 79 Tryz.f79) [p0,p1,p2]=qv L p0 p1 p2:=by kernel_rfl
theorem eq_121(L:bx)(p0 c1:PV):aQ (S.env L Jj bS 121 Tryz.f121) [p0,PV.rp [c1]]=l7 L p0 c1:=by kernel_rfl
theorem eq_110(L:bx)(p0 p1 p2:PV):aQ (S.env L Jk bS 110 Tryz.f110) [p0,p1,p2]=ni L p0 p1 p2:=by kernel_rfl
theorem eq_97(L:bx)(p0 p1 p2:PV):aQ (S.env L Jl bS 97 Tryz.f97) [p0,p1,p2]=j4 L p0 p1 p2:=by kernel_rfl
theorem eq_47(L:bx)(p0:PV):aQ (S.env L Jm bS 47 Tryz.f47) [p0]=j5 L p0:=by kernel_rfl
theorem eq_46(L:bx)(p0:PV):aQ (S.env L Jn bS 46 Tryz.f46) [p0]=qw L p0:=by kernel_rfl
theorem eq_26(L:bx)(p0:PV):aQ (S.env L Jo bS 26 Tryz.f26) [p0]=qx L p0:=by kernel_rfl
theorem eq_59(L:bx)(p0:PV):kO (S.env L qy Jp 59 Tryz.f59) [p0]=hZ L p0:=by kernel_rfl
theorem eq_12(L:bx)(p0 p1:PV):aQ (S.env L qy EF 12 Tryz.f12) [p0,p1]=k8 L p0 p1:=by kernel_rfl
theorem eq_15(L:bx)(p0 p1:PV):aQ (S.env L Jq dI 15 Tryz.f15) [p0,p1]=mr L p0 p1:=by kernel_rfl
theorem Xm(L:bx)(m0 m1 m2 m3 m4 m5 m6:List PV→Option PV):aQ (S.env L [(22,m4),(39,fo),(75,cj),(15,m3),(20,m6),(85,bP),(12,m5),(26,dX),(40,gH),(41,fS),(76,gZ),(46,db),(80,br),(42,cL),(44,dp),(47,bF),(81,dq),(91,eA),(92,c7),(97,cv),(103,dQ),(108,c8),(109,dA),(110,dr),(131,aD),(123,dY),(107,eB),(121,cC),(45,cw),(78,bV),(43,aU),(79,eT),(27,cM),(52,fp),(51,dU),(48,bH),(49,du),(50,gI),(93,dZ),(94,e9),(77,dw),(90,j6),(23,m0),(25,m2),(24,m1),(100,bp),(101,gJ),(102,cV)] [(82,dc),(53,cy),(55,cR),(54,ck),(59,bN),(56,cz),(57,bG),(58,cA)] 11 Tryz.f11) []=iS m0 m1 m2 m3 m4 m5 m6 L:=by kernel_rfl
theorem Xn:EG=[(22,bX),(39,fo),(75,cj),(15,aZ),(20,fa),(85,bP),(12,bI),(26,dX),(40,gH),(41,fS),(76,gZ),(46,db),(80,br),(42,cL),(44,dp),(47,bF),(81,dq),(91,eA),(92,c7),(97,cv),(103,dQ),(108,c8),(109,dA),(110,dr),(131,aD),(123,dY),(107,eB),(121,cC),(45,cw),(78,bV),(43,aU),(79,eT),(27,cM),(52,fp),(51,dU),(48,bH),(49,du),(50,gI),(93,dZ),(94,e9),(77,dw),(90,j6),(23,fG),(25,fT),(24,hT),(100,bp),(101,gJ),(102,cV)]:=by kernel_rfl
theorem Xo:dI=[(82,dc),(53,cy),(55,cR),(54,ck),(59,bN),(56,cz),(57,bG),(58,cA)]:=by kernel_rfl
theorem eq_11(L:bx):aQ (S.env L EG dI 11 Tryz.f11) []=j7 L:=by rw[Xn,Xo];exact(Xm L fG hT fT aZ bX bI fa).trans (by kernel_rfl)
theorem eq_88(L:bx)(p0 p1 p2 p3:PV):aQ (S.env L Jr dI 88 Tryz.f88) [p0,p1,p2,p3]=tI L p0 p1 p2 p3:=by kernel_rfl
theorem eq_73(L:bx)(p0:PV):aQ (S.env L Js dI 73 Tryz.f73) [p0]=tJ L p0:=by kernel_rfl
theorem eq_69(L:bx)(p0:PV):aQ (S.env L Jt dI 69 Tryz.f69) [p0]=tK L p0:=by kernel_rfl
theorem eq_68(L:bx)(p0 p1:PV):aQ (S.env L Ju dI 68 Tryz.f68) [p0,p1]=nj L p0 p1:=by kernel_rfl
theorem eq_5(L:bx)(p0 p1:PV):aQ (S.env L Jv dI 5 Tryz.f5) [p0,p1]=iT L p0 p1:=by kernel_rfl
end Go.Proofs.YtcmhmlnkhmefbaaGreat
