import Derived.Test.YtmbihgjlollbeaaGreatTab
namespace Go.Proofs.YtmbihgjlollbeaaGreat
open Go.Ab
set_option maxRecDepth 1000000
theorem eq_270(L:bk)(c01 c02 p1 p2:PV):eQ (S.env L U4 kF 270 Tryz.f270) [PV.rp [PV.fn 262 [],c01,c02],p1,p2]=eG L c01 c02 p1 p2:=by kernel_rfl
theorem eq_47(L:bk)(c0 c1 c2 c3 c4 c5 c6 c7 c8 c9 pG pH pI:PV):eQ (S.env L U5 kF 47 Tryz.f47) [PV.rp [c0,c1,c2,c3,c4,c5,c6,c7,c8,c9,pG,pH,pI]]=qi L c0 c1 c2 c3 c4 c5 c6 c7 c8 c9 pG pH pI:=by kernel_rfl
theorem eq_51(L:bk)(c0 c1 c2 c3 c4 c5 c6 c7 c8 c9 pG pH pI:PV):eQ (S.env L U6 kF 51 Tryz.f51) [PV.rp [c0,c1,c2,c3,c4,c5,c6,c7,c8,c9,pG,pH,pI]]=qj L c0 c1 c2 c3 c4 c5 c6 c7 c8 c9 pG pH pI:=by kernel_rfl
theorem eq_55(L:bk)(c0 c1 c2 c3 c4 c5 c6 c7 c8 c9 pG pH pI IB c14 c15:PV):eQ (S.env L U7 kF 55 Tryz.f55) [PV.rp [c0,c1,c2,c3,c4,c5,c6,c7,c8,c9,pG,pH,pI],PV.rp [IB],PV.rp [c14],PV.rp [c15]]=qk L c0 c1 c2 c3 c4 c5 c6 c7 c8 c9 pG pH pI IB c14 c15:=by kernel_rfl
theorem eq_63(L:bk)(c0 c1 c2 c3 c4 c5 c6 c7 c8 c9 pG pH pI IB:PV):eQ (S.env L PZ kF 63 Tryz.f63) [PV.rp [c0,c1,c2,c3,c4,c5,c6,c7,c8,c9,pG,pH,pI],PV.rp [IB]]=qm L c0 c1 c2 c3 c4 c5 c6 c7 c8 c9 pG pH pI IB:=by kernel_rfl
theorem eq_21(L:bk):eQ (S.env L P0 kF 21 Tryz.f21) []=Hk L:=by kernel_rfl
theorem eq_260(L:bk)(p0 c1:PV):eQ (S.env L U8 kF 260 Tryz.f260) [p0,PV.rp [c1]]=sb L p0 c1:=by kernel_rfl
theorem eq_65(L:bk)(c0 c1 c2 c3 c4 c5 c6 c7 c8 c9 pG pH pI:PV):eQ (S.env L U9 kF 65 Tryz.f65) [PV.rp [c0,c1,c2,c3,c4,c5,c6,c7,c8,c9,pG,pH,pI]]=oP L c0 c1 c2 c3 c4 c5 c6 c7 c8 c9 pG pH pI:=by kernel_rfl
theorem eq_57(L:bk)(c0 c1 c2 c3 c4 c5 c6 c7 c8 c9 pG pH pI:PV):eQ (S.env L P1 kF 57 Tryz.f57) [PV.rp [c0,c1,c2,c3,c4,c5,c6,c7,c8,c9,pG,pH,pI]]=qn L c0 c1 c2 c3 c4 c5 c6 c7 c8 c9 pG pH pI:=by kernel_rfl
theorem eq_59(L:bk)(c0 c1 c2 c3 c4 c5 c6 c7 c8 c9 pG pH pI:PV):eQ (S.env L P2 kF 59 Tryz.f59) [PV.rp [c0,c1,c2,c3,c4,c5,c6,c7,c8,c9,pG,pH,pI]]=qo L c0 c1 c2 c3 c4 c5 c6 c7 c8 c9 pG pH pI:=by kernel_rfl
theorem eq_49(L:bk)(c0 c1 c2 c3 c4 c5 c6 c7 c8 c9 pG pH pI:PV):eQ (S.env L Va kF 49 Tryz.f49) [PV.rp [c0,c1,c2,c3,c4,c5,c6,c7,c8,c9,pG,pH,pI]]=qp L c0 c1 c2 c3 c4 c5 c6 c7 c8 c9 pG pH pI:=by kernel_rfl
theorem eq_53(L:bk)(c0 c1 c2 c3 c4 c5 c6 c7 c8 c9 pG pH pI IB:PV):eQ (S.env L Vb kF 53 Tryz.f53) [PV.rp [c0,c1,c2,c3,c4,c5,c6,c7,c8,c9,pG,pH,pI],PV.rp [IB]]=qq L c0 c1 c2 c3 c4 c5 c6 c7 c8 c9 pG pH pI IB:=by kernel_rfl
theorem eq_166(L:bk)(p0 c1:PV):eQ (S.env L P3 kF 166 Tryz.f166) [p0,PV.rp [c1]]=wP L p0 c1:=by kernel_rfl
theorem eq_61(L:bk)(c0 c1 c2 c3 c4 c5 c6 c7 c8 c9 pG pH pI IB:PV):eQ (S.env L P4 kF 61 Tryz.f61) [PV.rp [c0,c1,c2,c3,c4,c5,c6,c7,c8,c9,pG,pH,pI],PV.rp [IB]]=qt L c0 c1 c2 c3 c4 c5 c6 c7 c8 c9 pG pH pI IB:=by kernel_rfl
theorem eq_19(L:bk):eQ (S.env L P5 kF 19 Tryz.f19) []=B7 L:=by kernel_rfl
theorem eq_9(L:bk):eQ (S.env L P6 kF 9 Tryz.f9) []=oO L:=by kernel_rfl
theorem eq_20(L:bk):eQ (S.env L P7 kF 20 Tryz.f20) []=Fj L:=by kernel_rfl
end Go.Proofs.YtmbihgjlollbeaaGreat
