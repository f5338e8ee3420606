import Derived.Test.YtcmhmlnkhmefbaaTab
namespace Go.Proofs.Ytcmhmlnkhmefbaa
open Go.Ab
set_option maxRecDepth 1000000
theorem eq_66(L:cp)(p0 p1:PV):aS (S0.env L NP bD 66 Try.f66) [p0,p1]=lL L p0 p1:=by kernel_rfl
theorem eq_10(L:cp):aS (S.env L NQ bD 10 Try.f10) []=wZ L:=by kernel_rfl
theorem eq_59(L:cp)(p0:PV):aS (S.env L NR bD 59 Try.f59) [p0]=rf L p0:=by kernel_rfl
theorem eq_30(L:cp)(p0 p1 p2:PV):aS (S.env L Gl bD 30 Try.f30) [p0,p1,p2]=mR L p0 p1 p2:=by kernel_rfl
theorem eq_48(L:cp)(p0 p1 p2:PV):aS (S.env L Gm bD 48 Try.f48) [p0,p1,p2]=oh L p0 p1 p2:=by kernel_rfl
theorem eq_85(L:cp)(p0 c1:PV):aS (S.env L Gn bD 85 Try.f85) [p0,PV.rp [c1]]=kK L p0 c1:=by kernel_rfl
theorem eq_74(L:cp)(p0 p1 p2:PV):aS (S.env L Gp bD 74 Try.f74) [p0,p1,p2]=lM L p0 p1 p2:=by kernel_rfl
theorem eq_61(L:cp)(p0 p1 p2:PV):aS (S.env L Gq bD 61 Try.f61) [p0,p1,p2]=jg L p0 p1 p2:=by kernel_rfl
theorem eq_29(L:cp)(p0:PV):aS (S.env L Gs bD 29 Try.f29) [p0]=jh L p0:=by kernel_rfl
theorem eq_28(L:cp)(p0:PV):aS (S.env L Gt bD 28 Try.f28) [p0]=oi L p0:=by kernel_rfl
theorem eq_16(L:cp)(p0:PV):aS (S.env L Gu bD 16 Try.f16) [p0]=oq L p0:=by kernel_rfl
theorem eq_41(L:cp)(p0:PV):jL (S.env L ot Gv 41 Try.f41) [p0]=gx L p0:=by kernel_rfl
theorem eq_12(L:cp)(p0 p1:PV):aS (S.env L ot CH 12 Try.f12) [p0,p1]=jW L p0 p1:=by kernel_rfl
theorem eq_11(L:cp)(p0 p1:PV):aS (S.env L Gw jX 11 Try.f11) [p0,p1]=k8 L p0 p1:=by kernel_rfl
theorem WH(L:cp)(m0 m1 m2 m3 m4 m5 m6:List PV→Option PV):aS (S.env L [(6,m4),(14,eW),(20,bH),(11,m3),(13,m6),(54,bC),(12,m5),(16,dR),(22,fZ),(23,fp),(45,gu),(28,cK),(49,bf),(24,ck),(26,cX),(29,bl),(50,cY),(56,ef),(57,cE),(61,bS),(67,dH),(72,cF),(73,dn),(74,cZ),(95,au),(87,dS),(71,eg),(85,bZ),(27,bT),(47,bE),(25,aK),(48,eF),(17,cm),(34,eX),(33,dN),(30,bp),(31,dd),(32,ga),(58,dU),(59,eN),(46,df),(55,ji),(8,m0),(10,m2),(9,m1),(64,aZ),(65,gb),(66,cy)] [(51,cL),(35,bU),(37,cr),(36,bI),(41,bB),(38,bV),(39,bm),(40,bW)] 5 Try.f5) []=gX m0 m1 m2 m3 m4 m5 m6 L:=by kernel_rfl
theorem WI:CI=[(6,bt),(14,eW),(20,bH),(11,aT),(13,eO),(54,bC),(12,bq),(16,dR),(22,fZ),(23,fp),(45,gu),(28,cK),(49,bf),(24,ck),(26,cX),(29,bl),(50,cY),(56,ef),(57,cE),(61,bS),(67,dH),(72,cF),(73,dn),(74,cZ),(95,au),(87,dS),(71,eg),(85,bZ),(27,bT),(47,bE),(25,aK),(48,eF),(17,cm),(34,eX),(33,dN),(30,bp),(31,dd),(32,ga),(58,dU),(59,eN),(46,df),(55,ji),(8,fe),(10,fq),(9,gv),(64,aZ),(65,gb),(66,cy)]:=by kernel_rfl
theorem WJ:jX=[(51,cL),(35,bU),(37,cr),(36,bI),(41,bB),(38,bV),(39,bm),(40,bW)]:=by kernel_rfl
theorem eq_5(L:cp):aS (S.env L CI jX 5 Try.f5) []=jj L:=by rw[WI,WJ];exact(WH L fe gv fq aT bt bq eO).trans (by kernel_rfl)
theorem eq_7(L:cp)(p0 p1:PV):aS (S.env L Gx jX 7 Try.f7) [p0,p1]=ou L p0 p1:=by kernel_rfl
end Go.Proofs.Ytcmhmlnkhmefbaa
