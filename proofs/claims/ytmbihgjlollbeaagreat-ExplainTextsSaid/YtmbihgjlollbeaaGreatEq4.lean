import Derived.Test.YtmbihgjlollbeaaGreatTab
namespace Go.Proofs.YtmbihgjlollbeaaGreat
open Go.Ab
set_option maxRecDepth 1000000
theorem eq_107(L:aL)(p0:PV):ab (S.env L Q7 ae 107 Tryz.f107) [p0]=Ew L p0:=by kernel_rfl
theorem eq_183(L:aL)(p0:PV):ab (S.env L VC ae 183 Tryz.f183) [p0]=rH L p0:=by kernel_rfl
theorem eq_109(L:aL)(p0:PV):ab (S.env L OP ae 109 Tryz.f109) [p0]=uN L p0:=by kernel_rfl
theorem eq_25(L:aL)(p0 p1:PV):ab (S.env L OQ ae 25 Tryz.f25) [p0,p1]=oT L p0 p1:=by kernel_rfl
theorem eq_73(L:aL)(p0 p1:PV):ab (S.env L OR ae 73 Tryz.f73) [p0,p1]=oU L p0 p1:=by kernel_rfl
theorem eq_155(L:aL)(p0 p1:PV):ab (S.env L OS ae 155 Tryz.f155) [p0,p1]=qz L p0 p1:=by kernel_rfl
theorem eq_262(L:aL)(p0 p1:PV):ab (S.env L OT ae 262 Tryz.f262) [p0,p1]=sg L p0 p1:=by kernel_rfl
theorem eq_247(L:aL)(p0 p1:PV):ab (S.env L OU ae 247 Tryz.f247) [p0,p1]=kV L p0 p1:=by kernel_rfl
theorem eq_116(L:aL)(p0 p1:PV):ab (S.env L OV ae 116 Tryz.f116) [p0,p1]=qA L p0 p1:=by kernel_rfl
theorem eq_108(L:aL)(p0 p1 p2 p3:PV):ab (S.env L OW ae 108 Tryz.f108) [p0,p1,p2,p3]=yG L p0 p1 p2 p3:=by kernel_rfl
theorem eq_117(L:aL)(p0 p1 p2:PV):ab (S.env L OX ae 117 Tryz.f117) [p0,p1,p2]=qB L p0 p1 p2:=by kernel_rfl
theorem eq_48(L:aL)(p0:PV):ab (S.env L OY ae 48 Tryz.f48) [p0]=yH L p0:=by kernel_rfl
theorem eq_181(L:aL)(p0 p1 p2:PV):ab (S.env L OZ ae 181 Tryz.f181) [p0,p1,p2]=sY L p0 p1 p2:=by kernel_rfl
theorem eq_224(L:aL)(p0 p1:PV):ab (S.env L O0 ae 224 Tryz.f224) [p0,p1]=rI L p0 p1:=by kernel_rfl
theorem eq_124(L:aL)(p0 p1:PV):ab (S.env L O1 ae 124 Tryz.f124) [p0,p1]=Ey L p0 p1:=by kernel_rfl
theorem eq_123(L:aL)(p0 p1:PV):ab (S.env L O2 ae 123 Tryz.f123) [p0,p1]=wh L p0 p1:=by kernel_rfl
theorem eq_72(L:aL)(p0:PV):ab (S.env L O3 ae 72 Tryz.f72) [p0]=zW L p0:=by kernel_rfl
theorem eq_216(L:aL)(p0:PV):ab (S.env L O4 ae 216 Tryz.f216) [p0]=jP L p0:=by kernel_rfl
theorem eq_173(L:aL)(p0:PV):ab (S.env L O5 ae 173 Tryz.f173) [p0]=mM L p0:=by kernel_rfl
theorem eq_212(L:aL)(p0:PV):ab (S.env L O6 ae 212 Tryz.f212) [p0]=ko L p0:=by kernel_rfl
theorem eq_213(L:aL)(p0:PV):ab (S.env L O7 ae 213 Tryz.f213) [p0]=mN L p0:=by kernel_rfl
theorem eq_23(L:aL)(p0 p1 p2:PV):ab (S.env L O8 ae 23 Tryz.f23) [p0,p1,p2]=qq L p0 p1 p2:=by kernel_rfl
theorem eq_52(L:aL)(p0:PV):ab (S.env L O9 ae 52 Tryz.f52) [p0]=wj L p0:=by kernel_rfl
theorem eq_56(L:aL)(p0 p1 p2 p3:PV):ab (S.env L Pa ae 56 Tryz.f56) [p0,p1,p2,p3]=Ez L p0 p1 p2 p3:=by kernel_rfl
theorem eq_110(L:aL)(p0 p1:PV):ab (S.env L Ic ae 110 Tryz.f110) [p0,p1]=wk L p0 p1:=by kernel_rfl
theorem eq_210(L:aL)(p0 p1:PV):ab (S.env L Ie ae 210 Tryz.f210) [p0,p1]=zX L p0 p1:=by kernel_rfl
theorem eq_112(L:aL)(p0 p1 p2 p3:PV):ab (S.env L Ig ae 112 Tryz.f112) [p0,p1,p2,p3]=zY L p0 p1 p2 p3:=by kernel_rfl
theorem eq_169(L:aL)(p0 p1:PV):ab (S.env L Ih ae 169 Tryz.f169) [p0,p1]=sZ L p0 p1:=by kernel_rfl
theorem eq_64(L:aL)(p0 p1:PV):ab (S.env L Ii ae 64 Tryz.f64) [p0,p1]=wm L p0 p1:=by kernel_rfl
theorem eq_101(L:aL)(p0:PV):ab (S.env L Ij ae 101 Tryz.f101) [p0]=qn L p0:=by kernel_rfl
theorem eq_41(L:aL)(p0 p1 p2:PV):ab (S.env L Ik ae 41 Tryz.f41) [p0,p1,p2]=mX L p0 p1 p2:=by kernel_rfl
theorem eq_20(L:aL):ab (S.env L Il ae 20 Tryz.f20) []=xU L:=by kernel_rfl
theorem eq_205(L:aL)(p0:PV):ab (S.env L Im ae 205 Tryz.f205) [p0]=si L p0:=by kernel_rfl
theorem eq_161(L:aL)(p0 p1:PV):ab (S.env L Io ae 161 Tryz.f161) [p0,p1]=yI L p0 p1:=by kernel_rfl
theorem eq_159(L:aL)(p0:PV):ab (S.env L Ip ae 159 Tryz.f159) [p0]=tT L p0:=by kernel_rfl
theorem eq_103(L:aL)(p0:PV):ab (S.env L Iq ae 103 Tryz.f103) [p0]=wo L p0:=by kernel_rfl
theorem eq_44(L:aL)(p0:PV):ab (S.env L Ir ae 44 Tryz.f44) [p0]=yB L p0:=by kernel_rfl
end Go.Proofs.YtmbihgjlollbeaaGreat
