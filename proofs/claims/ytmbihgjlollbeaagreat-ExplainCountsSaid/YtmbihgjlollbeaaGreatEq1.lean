import Derived.Test.YtmbihgjlollbeaaGreatTab
namespace Go.Proofs.YtmbihgjlollbeaaGreat
open Go.Ab
set_option maxRecDepth 1000000
theorem eq_270(L:bB)(c01 c02 p1 p2:PV):ee (S.env L NS je 270 Tryz.f270) [PV.rp [PV.fn 262 [],c01,c02],p1,p2]=dW L c01 c02 p1 p2:=by kernel_rfl
theorem eq_47(L:bB)(c0 c1 c2 c3 c4 c5 c6 c7 c8 c9 mX mY mZ:PV):ee (S.env L NT je 47 Tryz.f47) [PV.rp [c0,c1,c2,c3,c4,c5,c6,c7,c8,c9,mX,mY,mZ]]=nv L c0 c1 c2 c3 c4 c5 c6 c7 c8 c9 mX mY mZ:=by kernel_rfl
theorem eq_51(L:bB)(c0 c1 c2 c3 c4 c5 c6 c7 c8 c9 mX mY mZ:PV):ee (S.env L NU je 51 Tryz.f51) [PV.rp [c0,c1,c2,c3,c4,c5,c6,c7,c8,c9,mX,mY,mZ]]=ny L c0 c1 c2 c3 c4 c5 c6 c7 c8 c9 mX mY mZ:=by kernel_rfl
theorem eq_55(L:bB)(c0 c1 c2 c3 c4 c5 c6 c7 c8 c9 mX mY mZ Cm c14 c15:PV):ee (S.env L NV je 55 Tryz.f55) [PV.rp [c0,c1,c2,c3,c4,c5,c6,c7,c8,c9,mX,mY,mZ],PV.rp [Cm],PV.rp [c14],PV.rp [c15]]=nA L c0 c1 c2 c3 c4 c5 c6 c7 c8 c9 mX mY mZ Cm c14 c15:=by kernel_rfl
theorem eq_63(L:bB)(c0 c1 c2 c3 c4 c5 c6 c7 c8 c9 mX mY mZ Cm:PV):ee (S.env L Ja je 63 Tryz.f63) [PV.rp [c0,c1,c2,c3,c4,c5,c6,c7,c8,c9,mX,mY,mZ],PV.rp [Cm]]=nB L c0 c1 c2 c3 c4 c5 c6 c7 c8 c9 mX mY mZ Cm:=by kernel_rfl
theorem eq_21(L:bB):ee (S.env L Jb je 21 Tryz.f21) []=Bi L:=by kernel_rfl
theorem eq_260(L:bB)(p0 c1:PV):ee (S.env L NW je 260 Tryz.f260) [p0,PV.rp [c1]]=oH L p0 c1:=by kernel_rfl
theorem eq_65(L:bB)(c0 c1 c2 c3 c4 c5 c6 c7 c8 c9 mX mY mZ:PV):ee (S.env L NX je 65 Tryz.f65) [PV.rp [c0,c1,c2,c3,c4,c5,c6,c7,c8,c9,mX,mY,mZ]]=mz L c0 c1 c2 c3 c4 c5 c6 c7 c8 c9 mX mY mZ:=by kernel_rfl
theorem eq_57(L:bB)(c0 c1 c2 c3 c4 c5 c6 c7 c8 c9 mX mY mZ:PV):ee (S.env L Jc je 57 Tryz.f57) [PV.rp [c0,c1,c2,c3,c4,c5,c6,c7,c8,c9,mX,mY,mZ]]=nC L c0 c1 c2 c3 c4 c5 c6 c7 c8 c9 mX mY mZ:=by kernel_rfl
theorem eq_59(L:bB)(c0 c1 c2 c3 c4 c5 c6 c7 c8 c9 mX mY mZ:PV):ee (S.env L Jd je 59 Tryz.f59) [PV.rp [c0,c1,c2,c3,c4,c5,c6,c7,c8,c9,mX,mY,mZ]]=nD L c0 c1 c2 c3 c4 c5 c6 c7 c8 c9 mX mY mZ:=by kernel_rfl
theorem eq_49(L:bB)(c0 c1 c2 c3 c4 c5 c6 c7 c8 c9 mX mY mZ:PV):ee (S.env L NY je 49 Tryz.f49) [PV.rp [c0,c1,c2,c3,c4,c5,c6,c7,c8,c9,mX,mY,mZ]]=nE L c0 c1 c2 c3 c4 c5 c6 c7 c8 c9 mX mY mZ:=by kernel_rfl
theorem eq_53(L:bB)(c0 c1 c2 c3 c4 c5 c6 c7 c8 c9 mX mY mZ Cm:PV):ee (S.env L NZ je 53 Tryz.f53) [PV.rp [c0,c1,c2,c3,c4,c5,c6,c7,c8,c9,mX,mY,mZ],PV.rp [Cm]]=nF L c0 c1 c2 c3 c4 c5 c6 c7 c8 c9 mX mY mZ Cm:=by kernel_rfl
theorem eq_166(L:bB)(p0 c1:PV):ee (S.env L Je je 166 Tryz.f166) [p0,PV.rp [c1]]=sc L p0 c1:=by kernel_rfl
theorem eq_61(L:bB)(c0 c1 c2 c3 c4 c5 c6 c7 c8 c9 mX mY mZ Cm:PV):ee (S.env L Jf je 61 Tryz.f61) [PV.rp [c0,c1,c2,c3,c4,c5,c6,c7,c8,c9,mX,mY,mZ],PV.rp [Cm]]=nG L c0 c1 c2 c3 c4 c5 c6 c7 c8 c9 mX mY mZ Cm:=by kernel_rfl
theorem eq_19(L:bB):ee (S.env L Jg je 19 Tryz.f19) []=vU L:=by kernel_rfl
theorem eq_9(L:bB):ee (S.env L Jh je 9 Tryz.f9) []=my L:=by kernel_rfl
theorem eq_20(L:bB):ee (S.env L Ji je 20 Tryz.f20) []=zs L:=by kernel_rfl
end Go.Proofs.YtmbihgjlollbeaaGreat
