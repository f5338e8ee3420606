import Derived.Test.YtmbihgjlollbeaaGreatTab
namespace Go.Proofs.YtmbihgjlollbeaaGreat
open Go.Ab
set_option maxRecDepth 1000000
theorem eq_270(L:bD)(c01 c02 p1 p2:PV):ei (S.env L OP jn 270 Tryz.f270) [PV.rp [PV.fn 262 [],c01,c02],p1,p2]=eb L c01 c02 p1 p2:=by kernel_rfl
theorem eq_47(L:bD)(c0 c1 c2 c3 c4 c5 c6 c7 c8 c9 nk nm np:PV):ei (S.env L OQ jn 47 Tryz.f47) [PV.rp [c0,c1,c2,c3,c4,c5,c6,c7,c8,c9,nk,nm,np]]=nK L c0 c1 c2 c3 c4 c5 c6 c7 c8 c9 nk nm np:=by kernel_rfl
theorem eq_51(L:bD)(c0 c1 c2 c3 c4 c5 c6 c7 c8 c9 nk nm np:PV):ei (S.env L OR jn 51 Tryz.f51) [PV.rp [c0,c1,c2,c3,c4,c5,c6,c7,c8,c9,nk,nm,np]]=nL L c0 c1 c2 c3 c4 c5 c6 c7 c8 c9 nk nm np:=by kernel_rfl
theorem eq_55(L:bD)(c0 c1 c2 c3 c4 c5 c6 c7 c8 c9 nk nm np CE c14 c15:PV):ei (S.env L OS jn 55 Tryz.f55) [PV.rp [c0,c1,c2,c3,c4,c5,c6,c7,c8,c9,nk,nm,np],PV.rp [CE],PV.rp [c14],PV.rp [c15]]=nM L c0 c1 c2 c3 c4 c5 c6 c7 c8 c9 nk nm np CE c14 c15:=by kernel_rfl
theorem eq_63(L:bD)(c0 c1 c2 c3 c4 c5 c6 c7 c8 c9 nk nm np CE:PV):ei (S.env L JM jn 63 Tryz.f63) [PV.rp [c0,c1,c2,c3,c4,c5,c6,c7,c8,c9,nk,nm,np],PV.rp [CE]]=nN L c0 c1 c2 c3 c4 c5 c6 c7 c8 c9 nk nm np CE:=by kernel_rfl
theorem eq_21(L:bD):ei (S.env L JN jn 21 Tryz.f21) []=BB L:=by kernel_rfl
theorem eq_260(L:bD)(p0 c1:PV):ei (S.env L OT jn 260 Tryz.f260) [p0,PV.rp [c1]]=oW L p0 c1:=by kernel_rfl
theorem eq_65(L:bD)(c0 c1 c2 c3 c4 c5 c6 c7 c8 c9 nk nm np:PV):ei (S.env L OU jn 65 Tryz.f65) [PV.rp [c0,c1,c2,c3,c4,c5,c6,c7,c8,c9,nk,nm,np]]=mM L c0 c1 c2 c3 c4 c5 c6 c7 c8 c9 nk nm np:=by kernel_rfl
theorem eq_57(L:bD)(c0 c1 c2 c3 c4 c5 c6 c7 c8 c9 nk nm np:PV):ei (S.env L JO jn 57 Tryz.f57) [PV.rp [c0,c1,c2,c3,c4,c5,c6,c7,c8,c9,nk,nm,np]]=nO L c0 c1 c2 c3 c4 c5 c6 c7 c8 c9 nk nm np:=by kernel_rfl
theorem eq_59(L:bD)(c0 c1 c2 c3 c4 c5 c6 c7 c8 c9 nk nm np:PV):ei (S.env L JP jn 59 Tryz.f59) [PV.rp [c0,c1,c2,c3,c4,c5,c6,c7,c8,c9,nk,nm,np]]=nP L c0 c1 c2 c3 c4 c5 c6 c7 c8 c9 nk nm np:=by kernel_rfl
theorem eq_49(L:bD)(c0 c1 c2 c3 c4 c5 c6 c7 c8 c9 nk nm np:PV):ei (S.env L OV jn 49 Tryz.f49) [PV.rp [c0,c1,c2,c3,c4,c5,c6,c7,c8,c9,nk,nm,np]]=nQ L c0 c1 c2 c3 c4 c5 c6 c7 c8 c9 nk nm np:=by kernel_rfl
theorem eq_53(L:bD)(c0 c1 c2 c3 c4 c5 c6 c7 c8 c9 nk nm np CE:PV):ei (S.env L OW jn 53 Tryz.f53) [PV.rp [c0,c1,c2,c3,c4,c5,c6,c7,c8,c9,nk,nm,np],PV.rp [CE]]=nR L c0 c1 c2 c3 c4 c5 c6 c7 c8 c9 nk nm np CE:=by kernel_rfl
theorem eq_166(L:bD)(p0 c1:PV):ei (S.env L JQ jn 166 Tryz.f166) [p0,PV.rp [c1]]=sN L p0 c1:=by kernel_rfl
theorem eq_61(L:bD)(c0 c1 c2 c3 c4 c5 c6 c7 c8 c9 nk nm np CE:PV):ei (S.env L JR jn 61 Tryz.f61) [PV.rp [c0,c1,c2,c3,c4,c5,c6,c7,c8,c9,nk,nm,np],PV.rp [CE]]=nS L c0 c1 c2 c3 c4 c5 c6 c7 c8 c9 nk nm np CE:=by kernel_rfl
theorem eq_19(L:bD):ei (S.env L JS jn 19 Tryz.f19) []=wC L:=by kernel_rfl
theorem eq_9(L:bD):ei (S.env L JT jn 9 Tryz.f9) []=mL L:=by kernel_rfl
theorem eq_20(L:bD):ei (S.env L JU jn 20 Tryz.f20) []=zV L:=by kernel_rfl
end Go.Proofs.YtmbihgjlollbeaaGreat
