import Derived.Test.YtanikidijjaohaaGreatTab
namespace Go.Proofs.YtanikidijjaohaaGreat
open Go.Ab
set_option maxRecDepth 1000000
theorem eq_24(L:bd)(p0 p1 p2:PV):aq (S.env L PM ar 24 Tryz.f24) [p0,p1,p2]=oI L p0 p1 p2:=by kernel_rfl
theorem eq_43(L:bd)(p0:PV):aq (S.env L T6 ar 43 Tryz.f43) [p0]=lE L p0:=by kernel_rfl
theorem eq_164(L:bd)(c01 c02 p1 p2:PV):aq (S.env L M9 ar 164 Tryz.f164) [PV.rp [PV.fn 156 [],c01,c02],p1,p2]=dV L c01 c02 p1 p2:=by kernel_rfl
theorem eq_130(L:bd)(p0 p1:PV):aq (S.env L Na ar 130 Tryz.f130) [p0,p1]=tQ L p0 p1:=by kernel_rfl
theorem eq_74(L:bd)(p0 p1:PV):aq (S.env L Nb ar 74 Tryz.f74) [p0,p1]=mc L p0 p1:=by kernel_rfl
theorem eq_68(L:bd)(p0:PV):aq (S.env L Nc ar 68 Tryz.f68) [p0]=vC L p0:=by kernel_rfl
theorem eq_44(L:bd)(p0:PV):aq (S.env L Nf ar 44 Tryz.f44) [p0]=rZ L p0:=by kernel_rfl
theorem eq_23(L:bd)(p0:PV):aq (S.env L Ng ar 23 Tryz.f23) [p0]=sa L p0:=by kernel_rfl
theorem eq_139(L:bd)(p0 p1 p2:PV):aq (S.env L Nh ar 139 Tryz.f139) [p0,p1,p2]=vD L p0 p1 p2:=by kernel_rfl
theorem eq_134(L:bd)(p0 p1 p2:PV):aq (S.env L Ni ar 134 Tryz.f134) [p0,p1,p2]=sb L p0 p1 p2:=by kernel_rfl
theorem eq_86(L:bd)(p0 p1:PV):aq (S.env L Nj ar 86 Tryz.f86) [p0,p1]=tR L p0 p1:=by kernel_rfl
theorem eq_122(L:bd)(p0 p1:PV):aq (S.env L Nk ar 122 Tryz.f122) [p0,p1]=oJ L p0 p1:=by kernel_rfl
theorem eq_50(L:bd)(p0 p1 p2:PV):aq (S.env L Nl ar 50 Tryz.f50) [p0,p1,p2]=tS L p0 p1 p2:=by kernel_rfl
theorem eq_104(L:bd)(p0 p1:PV):aq (S.env L Nn ar 104 Tryz.f104) [p0,p1]=gK L p0 p1:=by kernel_rfl
theorem eq_93(L:bd)(p0:PV):aq (S.env L Np ar 93 Tryz.f93) [p0]=gL L p0:=by kernel_rfl
theorem eq_57(L:bd)(p0:PV):aq (S.env L Nq ar 57 Tryz.f57) [p0]=fh L p0:=by kernel_rfl
theorem eq_31(L:bd)(p0:PV):aq (S.env L Nr ar 31 Tryz.f31) [p0]=jQ L p0:=by kernel_rfl
theorem eq_22(L:bd)(p0:PV):aq (S.env L Ns ar 22 Tryz.f22) [p0]=tT L p0:=by kernel_rfl
theorem eq_99(L:bd)(p0 p1 p2:PV):aq (S.env L Nt ar 99 Tryz.f99) [p0,p1,p2]=DE L p0 p1 p2:=by kernel_rfl
theorem eq_121(L:bd)(p0 p1 p2:PV):aq (S.env L Nu ar 121 Tryz.f121) [p0,p1,p2]=qx L p0 p1 p2:=by kernel_rfl
theorem eq_100(L:bd)(p0 p1 p2 p3:PV):aq (S.env L Nv ar 100 Tryz.f100) [p0,p1,p2,p3]=vE L p0 p1 p2 p3:=by kernel_rfl
theorem eq_25(L:bd)(p0:PV):aq (S.env L Ny ar 25 Tryz.f25) [p0]=vF L p0:=by kernel_rfl
theorem eq_52(L:bd)(p0 p1 p2:PV):aq (S.env L Nz ar 52 Tryz.f52) [p0,p1,p2]=tU L p0 p1 p2:=by kernel_rfl
theorem eq_32(L:bd)(p0 p1 p2:PV):aq (S.env L Hg ar 32 Tryz.f32) [p0,p1,p2]=qy L p0 p1 p2:=by kernel_rfl
theorem eq_129(L:bd)(p0 p1 p2:PV):aq (S.env L Hh ar 129 Tryz.f129) [p0,p1,p2]=pk L p0 p1 p2:=by kernel_rfl
theorem eq_112(L:bd)(p0 p1:PV):aq (S.env L Hi ar 112 Tryz.f112) [p0,p1]=vG L p0 p1:=by kernel_rfl
theorem eq_30(L:bd)(p0 p1 p2:PV):aq (S.env L Hj ar 30 Tryz.f30) [p0,p1,p2]=As L p0 p1 p2:=by kernel_rfl
end Go.Proofs.YtanikidijjaohaaGreat
