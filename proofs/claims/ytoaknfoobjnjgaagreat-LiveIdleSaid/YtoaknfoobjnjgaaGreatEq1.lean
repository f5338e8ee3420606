import Derived.Test.YtoaknfoobjnjgaaGreatTab
set_option linter.all false
namespace Go.Proofs.YtoaknfoobjnjgaaGreat
open Go.Ab
set_option maxRecDepth 1000000
theorem eq_94(L:bw)(p0:PV):ot (S.env L xC El 94 Tryz.f94) [p0]=mZ L p0:=by kernel_rfl
theorem eq_90(L:bw)(p0:PV):ot (S.env L xC Q6 90 Tryz.f90) [p0]=l5 L p0:=by kernel_rfl
theorem eq_203(L:bw)(p0:PV):ot (S.env L LV Q7 203 Tryz.f203) [p0]=vz L p0:=by kernel_rfl
theorem eq_113(L:bw)(c0 c1 c2 c3 c4 c5 c6 c7 c8 c9 oc od og Em:PV):fC (S.env L LW oF 113 Tryz.f113) [PV.rp [c0,c1,c2,c3,c4,c5,c6,c7,c8,c9,oc,od,og],PV.rp [Em]]=oG L c0 c1 c2 c3 c4 c5 c6 c7 c8 c9 oc od og Em:=by kernel_rfl
theorem eq_93(L:bw)(p0:PV):ot (S.env L xC Q8 93 Tryz.f93) [p0]=jH L p0:=by kernel_rfl
theorem eq_91(L:bw)(p0:PV):ot (S.env L xC Q9 91 Tryz.f91) [p0]=oH L p0:=by kernel_rfl
theorem eq_206(L:bw)(p0 c1:PV):fC (S.env L LV oF 206 Tryz.f206) [p0,PV.rp [c1]]=oI L p0 c1:=by kernel_rfl
theorem eq_97(L:bw)(c0 c1 c2 c3 c4 c5 c6 c7 c8 c9 oc od og:PV):fC (S.env L Ra oF 97 Tryz.f97) [PV.rp [c0,c1,c2,c3,c4,c5,c6,c7,c8,c9,oc,od,og]]=oJ L c0 c1 c2 c3 c4 c5 c6 c7 c8 c9 oc od og:=by kernel_rfl
theorem eq_101(L:bw)(c0 c1 c2 c3 c4 c5 c6 c7 c8 c9 oc od og:PV):fC (S.env L Rb oF 101 Tryz.f101) [PV.rp [c0,c1,c2,c3,c4,c5,c6,c7,c8,c9,oc,od,og]]=oK L c0 c1 c2 c3 c4 c5 c6 c7 c8 c9 oc od og:=by kernel_rfl
theorem eq_105(L:bw)(c0 c1 c2 c3 c4 c5 c6 c7 c8 c9 oc od og Em c14 c15:PV):fC (S.env L LX oF 105 Tryz.f105) [PV.rp [c0,c1,c2,c3,c4,c5,c6,c7,c8,c9,oc,od,og],PV.rp [Em],PV.rp [c14],PV.rp [c15]]=oL L c0 c1 c2 c3 c4 c5 c6 c7 c8 c9 oc od og Em c14 c15:=by kernel_rfl
theorem eq_109(L:bw)(c0 c1 c2 c3 c4 c5 c6 c7 c8 c9 oc od og:PV):fC (S.env L LY oF 109 Tryz.f109) [PV.rp [c0,c1,c2,c3,c4,c5,c6,c7,c8,c9,oc,od,og]]=oM L c0 c1 c2 c3 c4 c5 c6 c7 c8 c9 oc od og:=by kernel_rfl
theorem eq_296(L:bw)(c01 c02 p1 p2:PV):fC (S.env L Rc El 296 Tryz.f296) [PV.rp [PV.fn 282 [],c01,c02],p1,p2]=eF L c01 c02 p1 p2:=by kernel_rfl
theorem eq_92(L:bw)(p0:PV):ot (S.env L xC Re 92 Tryz.f92) [p0]=na L p0:=by kernel_rfl
theorem eq_89(L:bw)(p0:PV):ot (S.env L xC Rf 89 Tryz.f89) [p0]=nb L p0:=by kernel_rfl
theorem eq_115(L:bw)(c0 c1 c2 c3 c4 c5 c6 c7 c8 c9 oc od og:PV):fC (S.env L Rg oF 115 Tryz.f115) [PV.rp [c0,c1,c2,c3,c4,c5,c6,c7,c8,c9,oc,od,og]]=nc L c0 c1 c2 c3 c4 c5 c6 c7 c8 c9 oc od og:=by kernel_rfl
theorem eq_107(L:bw)(c0 c1 c2 c3 c4 c5 c6 c7 c8 c9 oc od og:PV):fC (S.env L LZ oF 107 Tryz.f107) [PV.rp [c0,c1,c2,c3,c4,c5,c6,c7,c8,c9,oc,od,og]]=oN L c0 c1 c2 c3 c4 c5 c6 c7 c8 c9 oc od og:=by kernel_rfl
theorem eq_211(L:bw)(p0 c1:PV):fC (S.env L L2 oF 211 Tryz.f211) [p0,PV.rp [c1]]=tF L p0 c1:=by kernel_rfl
theorem eq_280(L:bw)(p0 c1:PV):fC (S.env L Rh El 280 Tryz.f280) [p0,PV.rp [c1]]=qi L p0 c1:=by kernel_rfl
theorem eq_95(L:bw)(p0:PV):ot (S.env L xC Ri 95 Tryz.f95) [p0]=j6 L p0:=by kernel_rfl
theorem eq_99(L:bw)(c0 c1 c2 c3 c4 c5 c6 c7 c8 c9 oc od og:PV):fC (S.env L Rj oF 99 Tryz.f99) [PV.rp [c0,c1,c2,c3,c4,c5,c6,c7,c8,c9,oc,od,og]]=oO L c0 c1 c2 c3 c4 c5 c6 c7 c8 c9 oc od og:=by kernel_rfl
theorem eq_103(L:bw)(c0 c1 c2 c3 c4 c5 c6 c7 c8 c9 oc od og Em:PV):fC (S.env L Rk oF 103 Tryz.f103) [PV.rp [c0,c1,c2,c3,c4,c5,c6,c7,c8,c9,oc,od,og],PV.rp [Em]]=oP L c0 c1 c2 c3 c4 c5 c6 c7 c8 c9 oc od og Em:=by kernel_rfl
theorem eq_111(L:bw)(c0 c1 c2 c3 c4 c5 c6 c7 c8 c9 oc od og Em:PV):fC (S.env L L3 oF 111 Tryz.f111) [PV.rp [c0,c1,c2,c3,c4,c5,c6,c7,c8,c9,oc,od,og],PV.rp [Em]]=oQ L c0 c1 c2 c3 c4 c5 c6 c7 c8 c9 oc od og Em:=by kernel_rfl
end Go.Proofs.YtoaknfoobjnjgaaGreat
