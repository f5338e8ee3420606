import Derived.Test.YtoaknfoobjnjgaaGreatTab
namespace Go.Proofs.YtoaknfoobjnjgaaGreat
open Go.Ab
set_option maxRecDepth 1000000
theorem eq_280(L:aX)(p0 c1:PV):eu (S.env L Sd F3 280 Tryz.f280) [p0,PV.rp [c1]]=qH L p0 c1:=by kernel_rfl
theorem eq_94(L:aX)(p0:PV):oE (S.env L zk F3 94 Tryz.f94) [p0]=nj L p0:=by kernel_rfl
theorem eq_90(L:aX)(p0:PV):oE (S.env L zk Se 90 Tryz.f90) [p0]=ma L p0:=by kernel_rfl
theorem eq_99(L:aX)(c0 c1 c2 c3 c4 c5 c6 c7 c8 c9 oz oA nZ:PV):eu (S.env L Sf kP 99 Tryz.f99) [PV.rp [c0,c1,c2,c3,c4,c5,c6,c7,c8,c9,oz,oA,nZ]]=oN L c0 c1 c2 c3 c4 c5 c6 c7 c8 c9 oz oA nZ:=by kernel_rfl
theorem eq_103(L:aX)(c0 c1 c2 c3 c4 c5 c6 c7 c8 c9 oz oA nZ F4:PV):eu (S.env L Sg kP 103 Tryz.f103) [PV.rp [c0,c1,c2,c3,c4,c5,c6,c7,c8,c9,oz,oA,nZ],PV.rp [F4]]=oO L c0 c1 c2 c3 c4 c5 c6 c7 c8 c9 oz oA nZ F4:=by kernel_rfl
theorem eq_111(L:aX)(c0 c1 c2 c3 c4 c5 c6 c7 c8 c9 oz oA nZ F4:PV):eu (S.env L Nu kP 111 Tryz.f111) [PV.rp [c0,c1,c2,c3,c4,c5,c6,c7,c8,c9,oz,oA,nZ],PV.rp [F4]]=oP L c0 c1 c2 c3 c4 c5 c6 c7 c8 c9 oz oA nZ F4:=by kernel_rfl
theorem eq_93(L:aX)(p0:PV):oE (S.env L zk Si 93 Tryz.f93) [p0]=jB L p0:=by kernel_rfl
theorem eq_91(L:aX)(p0:PV):oE (S.env L zk Sj 91 Tryz.f91) [p0]=oQ L p0:=by kernel_rfl
theorem eq_203(L:aX)(p0:PV):oE (S.env L Nv Sk 203 Tryz.f203) [p0]=C9 L p0:=by kernel_rfl
theorem eq_113(L:aX)(c0 c1 c2 c3 c4 c5 c6 c7 c8 c9 oz oA nZ F4:PV):eu (S.env L Nx kP 113 Tryz.f113) [PV.rp [c0,c1,c2,c3,c4,c5,c6,c7,c8,c9,oz,oA,nZ],PV.rp [F4]]=oR L c0 c1 c2 c3 c4 c5 c6 c7 c8 c9 oz oA nZ F4:=by kernel_rfl
theorem eq_92(L:aX)(p0:PV):oE (S.env L zk Sl 92 Tryz.f92) [p0]=nk L p0:=by kernel_rfl
theorem eq_89(L:aX)(p0:PV):oE (S.env L zk Sn 89 Tryz.f89) [p0]=nm L p0:=by kernel_rfl
theorem eq_49(L:aX)(p0:PV):eu (S.env L agj kP 49 Tryz.f49) [p0]=xf L p0:=by kernel_rfl
theorem eq_97(L:aX)(c0 c1 c2 c3 c4 c5 c6 c7 c8 c9 oz oA nZ:PV):eu (S.env L Sq kP 97 Tryz.f97) [PV.rp [c0,c1,c2,c3,c4,c5,c6,c7,c8,c9,oz,oA,nZ]]=oS L c0 c1 c2 c3 c4 c5 c6 c7 c8 c9 oz oA nZ:=by kernel_rfl
theorem eq_101(L:aX)(c0 c1 c2 c3 c4 c5 c6 c7 c8 c9 oz oA nZ:PV):eu (S.env L Sr kP 101 Tryz.f101) [PV.rp [c0,c1,c2,c3,c4,c5,c6,c7,c8,c9,oz,oA,nZ]]=oT L c0 c1 c2 c3 c4 c5 c6 c7 c8 c9 oz oA nZ:=by kernel_rfl
theorem eq_105(L:aX)(c0 c1 c2 c3 c4 c5 c6 c7 c8 c9 oz oA nZ F4 c14 c15:PV):eu (S.env L Ss kP 105 Tryz.f105) [PV.rp [c0,c1,c2,c3,c4,c5,c6,c7,c8,c9,oz,oA,nZ],PV.rp [F4],PV.rp [c14],PV.rp [c15]]=oU L c0 c1 c2 c3 c4 c5 c6 c7 c8 c9 oz oA nZ F4 c14 c15:=by kernel_rfl
theorem eq_109(L:aX)(c0 c1 c2 c3 c4 c5 c6 c7 c8 c9 oz oA nZ:PV):eu (S.env L Ny kP 109 Tryz.f109) [PV.rp [c0,c1,c2,c3,c4,c5,c6,c7,c8,c9,oz,oA,nZ]]=oV L c0 c1 c2 c3 c4 c5 c6 c7 c8 c9 oz oA nZ:=by kernel_rfl
theorem eq_44(L:aX)(p0:PV):eu (S.env L Nz kP 44 Tryz.f44) [p0,PV.rs 13 []]=Bd L p0:=by kernel_rfl
theorem eq_296(L:aX)(c01 c02 p1 p2:PV):eu (S.env L St F3 296 Tryz.f296) [PV.rp [PV.fn 282 [],c01,c02],p1,p2]=ez L c01 c02 p1 p2:=by kernel_rfl
theorem eq_95(L:aX)(p0:PV):oE (S.env L zk Su 95 Tryz.f95) [p0]=j5 L p0:=by kernel_rfl
theorem eq_115(L:aX)(c0 c1 c2 c3 c4 c5 c6 c7 c8 c9 oz oA nZ:PV):eu (S.env L Sv kP 115 Tryz.f115) [PV.rp [c0,c1,c2,c3,c4,c5,c6,c7,c8,c9,oz,oA,nZ]]=np L c0 c1 c2 c3 c4 c5 c6 c7 c8 c9 oz oA nZ:=by kernel_rfl
theorem eq_107(L:aX)(c0 c1 c2 c3 c4 c5 c6 c7 c8 c9 oz oA nZ:PV):eu (S.env L Sw kP 107 Tryz.f107) [PV.rp [c0,c1,c2,c3,c4,c5,c6,c7,c8,c9,oz,oA,nZ]]=oW L c0 c1 c2 c3 c4 c5 c6 c7 c8 c9 oz oA nZ:=by kernel_rfl
theorem eq_211(L:aX)(p0 c1:PV):eu (S.env L Sx kP 211 Tryz.f211) [p0,PV.rp [c1]]=uJ L p0 c1:=by kernel_rfl
theorem eq_61(L:aX)(p0:PV):eu (S.env L NA kP 61 Tryz.f61) [p0,PV.rs 13 []]=F5 L p0:=by kernel_rfl
end Go.Proofs.YtoaknfoobjnjgaaGreat
