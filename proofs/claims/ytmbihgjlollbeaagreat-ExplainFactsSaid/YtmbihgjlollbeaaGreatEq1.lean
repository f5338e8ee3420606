import Derived.Test.YtmbihgjlollbeaaGreatTab
namespace Go.Proofs.YtmbihgjlollbeaaGreat
open Go.Ab
set_option maxRecDepth 1000000
theorem eq_270(L:bk)(c01 c02 p1 p2:PV):eP (S.env L UW kq 270 Tryz.f270) [PV.rp [PV.fn 262 [],c01,c02],p1,p2]=eF L c01 c02 p1 p2:=by kernel_rfl
theorem eq_47(L:bk)(c0 c1 c2 c3 c4 c5 c6 c7 c8 c9 pF pG pH:PV):eP (S.env L UX kq 47 Tryz.f47) [PV.rp [c0,c1,c2,c3,c4,c5,c6,c7,c8,c9,pF,pG,pH]]=qe L c0 c1 c2 c3 c4 c5 c6 c7 c8 c9 pF pG pH:=by kernel_rfl
theorem eq_51(L:bk)(c0 c1 c2 c3 c4 c5 c6 c7 c8 c9 pF pG pH:PV):eP (S.env L UY kq 51 Tryz.f51) [PV.rp [c0,c1,c2,c3,c4,c5,c6,c7,c8,c9,pF,pG,pH]]=qf L c0 c1 c2 c3 c4 c5 c6 c7 c8 c9 pF pG pH:=by kernel_rfl
theorem eq_55(L:bk)(c0 c1 c2 c3 c4 c5 c6 c7 c8 c9 pF pG pH Iu c14 c15:PV):eP (S.env L UZ kq 55 Tryz.f55) [PV.rp [c0,c1,c2,c3,c4,c5,c6,c7,c8,c9,pF,pG,pH],PV.rp [Iu],PV.rp [c14],PV.rp [c15]]=qg L c0 c1 c2 c3 c4 c5 c6 c7 c8 c9 pF pG pH Iu c14 c15:=by kernel_rfl
theorem eq_63(L:bk)(c0 c1 c2 c3 c4 c5 c6 c7 c8 c9 pF pG pH Iu:PV):eP (S.env L PS kq 63 Tryz.f63) [PV.rp [c0,c1,c2,c3,c4,c5,c6,c7,c8,c9,pF,pG,pH],PV.rp [Iu]]=qi L c0 c1 c2 c3 c4 c5 c6 c7 c8 c9 pF pG pH Iu:=by kernel_rfl
theorem eq_21(L:bk):eP (S.env L PT kq 21 Tryz.f21) []=Hf L:=by kernel_rfl
theorem eq_260(L:bk)(p0 c1:PV):eP (S.env L U0 kq 260 Tryz.f260) [p0,PV.rp [c1]]=rY L p0 c1:=by kernel_rfl
theorem eq_65(L:bk)(c0 c1 c2 c3 c4 c5 c6 c7 c8 c9 pF pG pH:PV):eP (S.env L U1 kq 65 Tryz.f65) [PV.rp [c0,c1,c2,c3,c4,c5,c6,c7,c8,c9,pF,pG,pH]]=oO L c0 c1 c2 c3 c4 c5 c6 c7 c8 c9 pF pG pH:=by kernel_rfl
theorem eq_57(L:bk)(c0 c1 c2 c3 c4 c5 c6 c7 c8 c9 pF pG pH:PV):eP (S.env L PU kq 57 Tryz.f57) [PV.rp [c0,c1,c2,c3,c4,c5,c6,c7,c8,c9,pF,pG,pH]]=qj L c0 c1 c2 c3 c4 c5 c6 c7 c8 c9 pF pG pH:=by kernel_rfl
theorem eq_59(L:bk)(c0 c1 c2 c3 c4 c5 c6 c7 c8 c9 pF pG pH:PV):eP (S.env L PW kq 59 Tryz.f59) [PV.rp [c0,c1,c2,c3,c4,c5,c6,c7,c8,c9,pF,pG,pH]]=qk L c0 c1 c2 c3 c4 c5 c6 c7 c8 c9 pF pG pH:=by kernel_rfl
theorem eq_49(L:bk)(c0 c1 c2 c3 c4 c5 c6 c7 c8 c9 pF pG pH:PV):eP (S.env L U2 kq 49 Tryz.f49) [PV.rp [c0,c1,c2,c3,c4,c5,c6,c7,c8,c9,pF,pG,pH]]=qm L c0 c1 c2 c3 c4 c5 c6 c7 c8 c9 pF pG pH:=by kernel_rfl
theorem eq_53(L:bk)(c0 c1 c2 c3 c4 c5 c6 c7 c8 c9 pF pG pH Iu:PV):eP (S.env L U3 kq 53 Tryz.f53) [PV.rp [c0,c1,c2,c3,c4,c5,c6,c7,c8,c9,pF,pG,pH],PV.rp [Iu]]=qn L c0 c1 c2 c3 c4 c5 c6 c7 c8 c9 pF pG pH Iu:=by kernel_rfl
theorem eq_166(L:bk)(p0 c1:PV):eP (S.env L PX kq 166 Tryz.f166) [p0,PV.rp [c1]]=wK L p0 c1:=by kernel_rfl
theorem eq_61(L:bk)(c0 c1 c2 c3 c4 c5 c6 c7 c8 c9 pF pG pH Iu:PV):eP (S.env L PY kq 61 Tryz.f61) [PV.rp [c0,c1,c2,c3,c4,c5,c6,c7,c8,c9,pF,pG,pH],PV.rp [Iu]]=qo L c0 c1 c2 c3 c4 c5 c6 c7 c8 c9 pF pG pH Iu:=by kernel_rfl
theorem eq_19(L:bk):eP (S.env L PZ kq 19 Tryz.f19) []=B3 L:=by kernel_rfl
theorem eq_9(L:bk):eP (S.env L P0 kq 9 Tryz.f9) []=oN L:=by kernel_rfl
theorem eq_20(L:bk):eP (S.env L P1 kq 20 Tryz.f20) []=Ff L:=by kernel_rfl
end Go.Proofs.YtmbihgjlollbeaaGreat
