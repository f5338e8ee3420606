import Derived.Shelf.SlLaysF0
import Derived.KernelRfl
import Derived.Test.YtoaknfoobjnjgaaGreatTab
set_option linter.all false
open Option renaming some→U,none→Z
open Bool renaming true→Y
namespace Go.Proofs.YtoaknfoobjnjgaaGreat
open Go.Shelf
set_option maxRecDepth 100000
def X2:Go.Shelf.Ren:=⟨λ|6=>174|15=>223|14=>222|28=>261|29=>262|20=>253|21=>254|22=>255|23=>256|24=>257|25=>258|26=>259|27=>260|46=>285|47=>286|48=>287|49=>288|50=>289|57=>300|n=>n,λ|22=>30|24=>110|25=>261|3=>3|39=>304|0=>0|53=>335|55=>210|4=>4|46=>329|45=>328|50=>224|5=>5|9=>9|66=>351|70=>355|76=>365|77=>206|n=>n,λ|n=>n⟩
def ald:Go.Proofs.SlLaysF0.n6 Tryz.prog X2 where
 mixed:=by kernel_rfl
 f6:=⟨ "slices.SortFunc[[]transit/api.Footpath,transit/api.Footpath]",by decide,Tryz.func174.trans (congrArg U (by kernel_rfl))⟩
 f14:=⟨ "slices.pdqsortCmpFunc[transit/api.Footpath]",by decide,Tryz.func222.trans (congrArg U (by kernel_rfl))⟩
 f15:=Tryz.func223.trans (congrArg U (by kernel_rfl))
 f20:=⟨ "slices.insertionSortCmpFunc[transit/api.Footpath]",by decide,Tryz.func253.trans (congrArg U (by kernel_rfl))⟩
 f21:=⟨ "slices.heapSortCmpFunc[transit/api.Footpath]",by decide,Tryz.func254.trans (congrArg U (by kernel_rfl))⟩
 f22:=⟨ "slices.breakPatternsCmpFunc[transit/api.Footpath]",by decide,Tryz.func255.trans (congrArg U (by kernel_rfl))⟩
 f23:=⟨ "slices.choosePivotCmpFunc[transit/api.Footpath]",by decide,Tryz.func256.trans (congrArg U (by kernel_rfl))⟩
 f24:=⟨ "slices.reverseRangeCmpFunc[transit/api.Footpath]",by decide,Tryz.func257.trans (congrArg U (by kernel_rfl))⟩
 f25:=⟨ "slices.partialInsertionSortCmpFunc[transit/api.Footpath]",by decide,Tryz.func258.trans (congrArg U (by kernel_rfl))⟩
 f26:=⟨ "slices.partitionEqualCmpFunc[transit/api.Footpath]",by decide,Tryz.func259.trans (congrArg U (by kernel_rfl))⟩
 f27:=⟨ "slices.partitionCmpFunc[transit/api.Footpath]",by decide,Tryz.func260.trans (congrArg U (by kernel_rfl))⟩
 f28:=Tryz.func261.trans (congrArg U (by kernel_rfl))
 f29:=Tryz.func262.trans (congrArg U (by kernel_rfl))
 f46:=⟨ "slices.siftDownCmpFunc[transit/api.Footpath]",by decide,Tryz.func285.trans (congrArg U (by kernel_rfl))⟩
 f47:=Tryz.func286.trans (congrArg U (by kernel_rfl))
 f48:=Tryz.func287.trans (congrArg U (by kernel_rfl))
 f49:=⟨ "slices.medianAdjacentCmpFunc[transit/api.Footpath]",by decide,Tryz.func288.trans (congrArg U (by kernel_rfl))⟩
 f50:=⟨ "slices.medianCmpFunc[transit/api.Footpath]",by decide,Tryz.func289.trans (congrArg U (by kernel_rfl))⟩
 f57:=⟨ "slices.order2CmpFunc[transit/api.Footpath]",by decide,Tryz.func300.trans (congrArg U (by kernel_rfl))⟩
 t0:=Tryz.underlying0
 a0:=Tryz.isAgg0
 z0:=Tryz.sizeOf0
 v0:=Tryz.zeroValue0
 t3:=Tryz.underlying3
 a3:=Tryz.isAgg3
 z3:=Tryz.sizeOf3
 v3:=Tryz.zeroValue3
 t4:=Tryz.underlying4
 a4:=Tryz.isAgg4
 z4:=Tryz.sizeOf4
 v4:=Tryz.zeroValue4
 t5:=Tryz.underlying5
 a5:=Tryz.isAgg5
 z5:=Tryz.sizeOf5
 v5:=Tryz.zeroValue5
 t9:=Tryz.underlying9
 a9:=Tryz.isAgg9
 z9:=Tryz.sizeOf9
 v9:=Tryz.zeroValue9
 t22:=Tryz.underlying30
 a22:=Tryz.isAgg30
 z22:=Tryz.sizeOf30
 v22:=Tryz.zeroValue30
 t25:=Tryz.underlying261
 a25:=Tryz.isAgg261
 z25:=Tryz.sizeOf261
 v25:=Tryz.zeroValue261
 t39:=Tryz.underlying304
 a39:=Tryz.isAgg304
 z39:=Tryz.sizeOf304
 v39:=Tryz.zeroValue304
 t45:=Tryz.underlying328
 a45:=Tryz.isAgg328
 z45:=Tryz.sizeOf328
 v45:=Tryz.zeroValue328
 t46:=Tryz.underlying329
 a46:=Tryz.isAgg329
 z46:=Tryz.sizeOf329
 v46:=Tryz.zeroValue329
 t50:=Tryz.underlying224
 a50:=Tryz.isAgg224
 z50:=Tryz.sizeOf224
 v50:=Tryz.zeroValue224
 t53:=Tryz.underlying335
 a53:=Tryz.isAgg335
 z53:=Tryz.sizeOf335
 v53:=Tryz.zeroValue335
 t55:=Tryz.underlying210
 a55:=Tryz.isAgg210
 z55:=Tryz.sizeOf210
 v55:=Tryz.zeroValue210
 t66:=Tryz.underlying351
 a66:=Tryz.isAgg351
 z66:=Tryz.sizeOf351
 v66:=Tryz.zeroValue351
 t70:=Tryz.underlying355
 a70:=Tryz.isAgg355
 z70:=Tryz.sizeOf355
 v70:=Tryz.zeroValue355
 t76:=Tryz.underlying365
 a76:=Tryz.isAgg365
 z76:=Tryz.sizeOf365
 v76:=Tryz.zeroValue365
 t77:=Tryz.underlying206
 a77:=Tryz.isAgg206
 z77:=Tryz.sizeOf206
 v77:=Tryz.zeroValue206
end Go.Proofs.YtoaknfoobjnjgaaGreat
namespace Go.Proofs.YtoaknfoobjnjgaaGreat
open Go.Ab
set_option maxRecDepth 1000000
def eq_94(L:aY)(p0:PV):qo (S.env L EK MB 94 Tryz.f94) [p0]=q7 L p0:=bp
def eq_90(L:aY)(p0:PV):qo (S.env L EK aaR 90 Tryz.f90) [p0]=pA L p0:=bp
def eq_203(L:aY)(p0:PV):qo (S.env L Vp aaS 203 Tryz.f203) [p0]=CA L p0:=bp
def eq_113(L:aY)(c0 c1 c2 c3 c4 c5 c6 c7 c8 c9 BB BC BD Qz:PV):gT (S.env L Vq nT 113 Tryz.f113) [PV.rp [c0,c1,c2,c3,c4,c5,c6,c7,c8,c9,BB,BC,BD],PV.rp [Qz]]=sR L c0 c1 c2 c3 c4 c5 c6 c7 c8 c9 BB BC BD Qz:=bp
def eq_93(L:aY)(p0:PV):qo (S.env L EK aaT 93 Tryz.f93) [p0]=lZ L p0:=bp
def eq_91(L:aY)(p0:PV):qo (S.env L EK aaU 91 Tryz.f91) [p0]=sS L p0:=bp
def eq_206(L:aY)(p0 c1:PV):gT (S.env L Vp nT 206 Tryz.f206) [p0,PV.rp [c1]]=sT L p0 c1:=bp
def eq_97(L:aY)(c0 c1 c2 c3 c4 c5 c6 c7 c8 c9 BB BC BD:PV):gT (S.env L Vr nT 97 Tryz.f97) [PV.rp [c0,c1,c2,c3,c4,c5,c6,c7,c8,c9,BB,BC,BD]]=sU L c0 c1 c2 c3 c4 c5 c6 c7 c8 c9 BB BC BD:=bp
def eq_101(L:aY)(c0 c1 c2 c3 c4 c5 c6 c7 c8 c9 BB BC BD:PV):gT (S.env L Vs nT 101 Tryz.f101) [PV.rp [c0,c1,c2,c3,c4,c5,c6,c7,c8,c9,BB,BC,BD]]=sV L c0 c1 c2 c3 c4 c5 c6 c7 c8 c9 BB BC BD:=bp
def eq_105(L:aY)(c0 c1 c2 c3 c4 c5 c6 c7 c8 c9 BB BC BD Qz c14 c15:PV):gT (S.env L Vt nT 105 Tryz.f105) [PV.rp [c0,c1,c2,c3,c4,c5,c6,c7,c8,c9,BB,BC,BD],PV.rp [Qz],PV.rp [c14],PV.rp [c15]]=sW L c0 c1 c2 c3 c4 c5 c6 c7 c8 c9 BB BC BD Qz c14 c15:=bp
def eq_109(L:aY)(c0 c1 c2 c3 c4 c5 c6 c7 c8 c9 BB BC BD:PV):gT (S.env L Vu nT 109 Tryz.f109) [PV.rp [c0,c1,c2,c3,c4,c5,c6,c7,c8,c9,BB,BC,BD]]=sX L c0 c1 c2 c3 c4 c5 c6 c7 c8 c9 BB BC BD:=bp
def eq_296(L:aY)(c01 c02 p1 p2:PV):gT (S.env L aaV MB 296 Tryz.f296) [PV.rp [PV.fn 282 [],c01,c02],p1,p2]=fH L c01 c02 p1 p2:=bp
def eq_92(L:aY)(p0:PV):qo (S.env L EK aaW 92 Tryz.f92) [p0]=q8 L p0:=bp
def eq_89(L:aY)(p0:PV):qo (S.env L EK aaX 89 Tryz.f89) [p0]=q9 L p0:=bp
def eq_115(L:aY)(c0 c1 c2 c3 c4 c5 c6 c7 c8 c9 BB BC BD:PV):gT (S.env L Vv nT 115 Tryz.f115) [PV.rp [c0,c1,c2,c3,c4,c5,c6,c7,c8,c9,BB,BC,BD]]=re L c0 c1 c2 c3 c4 c5 c6 c7 c8 c9 BB BC BD:=bp
def eq_107(L:aY)(c0 c1 c2 c3 c4 c5 c6 c7 c8 c9 BB BC BD:PV):gT (S.env L Vw nT 107 Tryz.f107) [PV.rp [c0,c1,c2,c3,c4,c5,c6,c7,c8,c9,BB,BC,BD]]=sY L c0 c1 c2 c3 c4 c5 c6 c7 c8 c9 BB BC BD:=bp
def eq_211(L:aY)(p0 c1:PV):gT (S.env L Vx nT 211 Tryz.f211) [p0,PV.rp [c1]]=Ao L p0 c1:=bp
def eq_280(L:aY)(p0 c1:PV):gT (S.env L aaY MB 280 Tryz.f280) [p0,PV.rp [c1]]=vq L p0 c1:=bp
def eq_95(L:aY)(p0:PV):qo (S.env L EK aaZ 95 Tryz.f95) [p0]=mR L p0:=bp
def eq_192(L:aY)(p0:PV):qo (S.env L aa0 nT 192 Tryz.f192) [p0]=JT L p0:=bp
def eq_99(L:aY)(c0 c1 c2 c3 c4 c5 c6 c7 c8 c9 BB BC BD:PV):gT (S.env L Vy nT 99 Tryz.f99) [PV.rp [c0,c1,c2,c3,c4,c5,c6,c7,c8,c9,BB,BC,BD]]=sZ L c0 c1 c2 c3 c4 c5 c6 c7 c8 c9 BB BC BD:=bp
def eq_103(L:aY)(c0 c1 c2 c3 c4 c5 c6 c7 c8 c9 BB BC BD Qz:PV):gT (S.env L Vz nT 103 Tryz.f103) [PV.rp [c0,c1,c2,c3,c4,c5,c6,c7,c8,c9,BB,BC,BD],PV.rp [Qz]]=s7 L c0 c1 c2 c3 c4 c5 c6 c7 c8 c9 BB BC BD Qz:=bp
def eq_111(L:aY)(c0 c1 c2 c3 c4 c5 c6 c7 c8 c9 BB BC BD Qz:PV):gT (S.env L VA nT 111 Tryz.f111) [PV.rp [c0,c1,c2,c3,c4,c5,c6,c7,c8,c9,BB,BC,BD],PV.rp [Qz]]=s8 L c0 c1 c2 c3 c4 c5 c6 c7 c8 c9 BB BC BD Qz:=bp
end Go.Proofs.YtoaknfoobjnjgaaGreat
namespace Go.Proofs.YtoaknfoobjnjgaaGreat
open Go.Ab
set_option maxRecDepth 1000000
def eq_9:gT (S.env cD VB nT 9 Tryz.f9) []=U (.bool Y):=bp
end Go.Proofs.YtoaknfoobjnjgaaGreat
namespace Go.Proofs.YtoaknfoobjnjgaaGreat
open Go.Ab
set_option maxRecDepth 1000000
def Wh:qZ S0:=⟨bp,(λg h hh=>by cases hh),bp⟩
def asE:an S0 am8:=an.nil S0
def abJ:fC S0 MB:=fC.nil S0
def asF:an S0 am9:=an.s2 Wh asE abJ Tryz.func177 yp
def asG:an S0 ana:=an.s1 Wh asF abJ Tryz.func176 J8
def anb:an S0 ai5:=an.s2 Wh asG abJ Tryz.func175 rJ
def aoH(g:Nat)(M:List PV->Option PV)(h:clo g=U M):Gv S.P S.aQ g M:=by
 unfold clo at h;cases e:Nat.beq g 175 with
 |true=>rw[e]at h;have:=T0 e;subst this;cases h;exact anb (175,da) (GN bp)
 |false=>rw[e]at h;cases h
def aj:qZ S:=⟨bp,(λg h hh R args f m k r hr=>by
 have hh:(bif Nat.beq g 174 then U (Iy 4 clo)else Z)=U h:=hh;cases e:Nat.beq g 174 with
 |true=>rw[e]at hh;have:=T0 e;subst this;cases hh;exact Vo ald rfl ⟨Tryz.f174,_,Tryz.func174,rfl,bp⟩ Tryz.isAgg110 Tryz.sizeOf110 aoH hr
 |false=>rw[e]at hh;cases hh),bp⟩
def awz:an S ai5:=λx hx=>anb x hx
def eG:fC S MB:=fC.nil S
def awA:=an.s2 aj awz eG Tryz.func81 rf
def awB:=an.s1 aj awA eG Tryz.func117 AX
def awC:=an.s1 aj awB eG Tryz.func143 G7
def awD:=an.s5 aj awC eG Tryz.func208 Q5
def awE:=an.s4 aj awD eG Tryz.func158 J2
def awF:=an.s3 aj awE eG Tryz.func142 AY
def asH:=an.s2 aj awF eG Tryz.func144 ua
def asJ:=an.s1 aj asH eG Tryz.func145 Ff
def asK:=an.s1 aj asJ eG Tryz.func74 wo
def asL:=an.s3 aj asK eG Tryz.func66 pB
def asM:=an.s3 aj asL eG Tryz.func82 ri
def asN:=an.s3 aj asM eG Tryz.func47 rj
def asO:=an.s2 aj asN eG Tryz.func79 EN
def asP:=an.s2 aj asO eG Tryz.func77 rn
def asQ:=an.s1 aj asP eG Tryz.func242 Hq
def asS:=an.s1 aj asQ eG Tryz.func241 C1
def asT:=an.s3 aj asS eG Tryz.func201 CW
def asU:=an.s3 aj asT eG Tryz.func138 Rk
def asV:=an.s2 aj asU eG Tryz.func200 AL
def asW:an S aaY:=an.s1 aj asV eG Tryz.func140 rC
def asX:an S ai6:=an.step aj asW eG Tryz.func280 bp (λps r h=>by
 unfold eI at h;try dsimp only at h
 split at h
 .rw[eq_280];exact h
 .cases h)
def asY:=an.s3 aj asX eG Tryz.func249 AS
def asZ:an S aaV:=an.s2 aj asY eG Tryz.func282 CZ
def as0:an S ai7:=an.step aj asZ eG Tryz.func296 bp (λps r h=>by
 unfold bl at h;try dsimp only at h
 split at h
 .rw[eq_296];exact h
 .cases h)
def as1:=an.s3 aj as0 eG Tryz.func252 yo
def as2:=an.s1 aj as1 eG Tryz.func251 vE
def as3:=an.s2 aj as2 eG Tryz.func250 rH
def as4:=an.s2 aj as3 eG Tryz.func221 Fc
def as5:=an.s3 aj as4 eG Tryz.func172 rI
def as6:=an.s2 aj as5 eG Tryz.func121 vF
def as7:=an.s2 aj as6 eG Tryz.func166 AM
def as8:=an.s2 aj as7 eG Tryz.func202 tM
def as9:=an.s1 aj as8 eG Tryz.func141 rB
def ata:=an.s1 aj as9 eG Tryz.func139 tO
def atb:=an.s1 aj ata eG Tryz.func137 CX
def atc:=an.s3 aj atb eG Tryz.func167 AH
def atd:=an.s1 aj atc eG Tryz.func116 CS
def ate:=an.s1 aj atd eG Tryz.func157 Ha
def atf:=an.s1 aj ate eG Tryz.func100 G9
def atg:=an.s1 aj atf eG Tryz.func98 J1
def Om:an S EK:=an.s1 aj atg eG Tryz.func73 CY
def ath:fC S aaT:=fC.step aj Om eG Tryz.func94 bp (λps r h=>by
 unfold eR at h;try dsimp only at h
 split at h
 .rw[eq_94];exact h
 .cases h)
def ati:fC S aaW:=fC.step aj Om ath Tryz.func93 bp (λps r h=>by
 unfold dA at h;try dsimp only at h
 split at h
 .rw[eq_93];exact h
 .cases h)
def atj:fC S aaZ:=fC.step aj Om ati Tryz.func92 bp (λps r h=>by
 unfold eQ at h;try dsimp only at h
 split at h
 .rw[eq_92];exact h
 .cases h)
def atk:fC S aaR:=fC.step aj Om atj Tryz.func95 bp (λps r h=>by
 unfold dL at h;try dsimp only at h
 split at h
 .rw[eq_95];exact h
 .cases h)
def atl:fC S aaU:=fC.step aj Om atk Tryz.func90 bp (λps r h=>by
 unfold ey at h;try dsimp only at h
 split at h
 .rw[eq_90];exact h
 .cases h)
def atm:fC S aaX:=fC.step aj Om atl Tryz.func91 bp (λps r h=>by
 unfold fv at h;try dsimp only at h
 split at h
 .rw[eq_91];exact h
 .cases h)
def anc:fC S aaS:=fC.step aj Om atm Tryz.func89 bp (λps r h=>by
 unfold eP at h;try dsimp only at h
 split at h
 .rw[eq_89];exact h
 .cases h)
def ane:an S Vp:=an.s2 aj Om anc Tryz.func146 ub
def aI:fC S nT:=fC.step aj ane anc Tryz.func203 bp (λps r h=>by
 unfold jB at h;try dsimp only at h
 split at h
 .rw[eq_203];exact h
 .cases h)
def atn:an S ai8:=an.step aj ane aI Tryz.func206 bp (λps r h=>by
 unfold fA at h;try dsimp only at h
 split at h
 .rw[eq_206];exact h
 .cases h)
def ato:=an.s2 aj atn aI Tryz.func150 l5
def atp:=an.s2 aj ato aI Tryz.func80 EO
def atq:=an.s2 aj atp aI Tryz.func46 xV
def atr:=an.s1 aj atq aI Tryz.func27 Jr
def ats:=an.s2 aj atr aI Tryz.func44 Hr
def att:=an.s1 aj ats aI Tryz.func49 CK
def atu:=an.s2 aj att aI Tryz.func19 As
def atv:=an.s2 aj atu aI Tryz.func42 yn
def atw:=an.s2 aj atv aI Tryz.func72 yj
def atx:=an.s2 aj atw aI Tryz.func41 AQ
def aty:=an.s2 aj atx aI Tryz.func17 Hm
def atz:=an.s2 aj aty aI Tryz.func35 CE
def atA:=an.s3 aj atz aI Tryz.func63 ET
def atB:=an.s1 aj atA aI Tryz.func36 EX
def atC:=an.s2 aj atB aI Tryz.func195 vt
def atD:=an.s3 aj atC aI Tryz.func196 CF
def atE:=an.s3 aj atD aI Tryz.func130 EU
def atF:=an.s2 aj atE aI Tryz.func131 ES
def atG:=an.s2 aj atF aI Tryz.func62 EV
def atH:=an.s4 aj atG aI Tryz.func153 Hd
def atI:=an.s1 aj atH aI Tryz.func151 CP
def atJ:=an.s3 aj atI aI Tryz.func152 Q1
def atK:=an.s1 aj atJ aI Tryz.func88 Hb
def atL:=an.s4 aj atK aI Tryz.func154 Hi
def atM:=an.s2 aj atL aI Tryz.func86 J6
def atN:=an.s3 aj atM aI Tryz.func207 AW
def atO:=an.s2 aj atN aI Tryz.func155 Fe
def atP:=an.s1 aj atO aI Tryz.func87 He
def atQ:=an.s1 aj atP aI Tryz.func84 E8
def atS:=an.s2 aj atQ aI Tryz.func85 MT
def atT:=an.s1 aj atS aI Tryz.func83 G8
def atU:=an.s1 aj atT aI Tryz.func48 Hk
def atV:=an.s1 aj atU aI Tryz.func22 Hs
def atW:=an.s1 aj atV aI Tryz.func240 Ht
def atX:=an.s1 aj atW aI Tryz.func238 C2
def atY:=an.s3 aj atX aI Tryz.func239 Hu
def atZ:=an.s3 aj atY aI Tryz.func193 yq
def at0:=an.s1 aj atZ aI Tryz.func197 Fg
def at1:=an.s4 aj at0 aI Tryz.func198 Hv
def at2:=an.s1 aj at1 aI Tryz.func133 Hw
def anf:an S aa0:=an.s2 aj at2 aI Tryz.func191 Fh
def ai9:fC S ((192,mc)::nT):=fC.step aj anf aI Tryz.func192 bp (λps r h=>by
 unfold mc at h;try dsimp only at h
 split at h
 .rw[eq_192];exact h
 .cases h)
def aja:fC S afQ:=λx hx=>(aye.1 hx).elim (λe=>ai9 x (e▸List.mem_cons_self)) (λh=>aI x h)
def at3:=an.s2 aj anf aja Tryz.func190 Hx
def at4:=an.s2 aj at3 aI Tryz.func194 AZ
def at5:=an.s2 aj at4 aI Tryz.func129 Hy
def at6:=an.s2 aj at5 aI Tryz.func61 M0
def at7:=an.s1 aj at6 aI Tryz.func34 CJ
def aua:=an.s1 aj at7 aI Tryz.func136 Ap
def aub:=an.s2 aj aua aI Tryz.func69 rq
def auc:=an.s2 aj aub aI Tryz.func114 A0
def aud:=an.s2 aj auc aI Tryz.func57 Au
def aue:=an.s1 aj aud aI Tryz.func278 Fi
def auf:=an.s4 aj aue aI Tryz.func245 yr
def aug:=an.s4 aj auf aI Tryz.func216 yt
def aoI:=an.s2 aj aug aI Tryz.func217 J9
def aoJ:=an.s1 aj aoI aI Tryz.func276 uc
def aoK:=an.s3 aj aoJ aI Tryz.func277 A1
def aoL:=an.s3 aj aoK aI Tryz.func244 yu
def aoM:=an.s2 aj aoL aI Tryz.func209 qJ
def aoN:=an.s1 aj aoM aI Tryz.func159 yw
def aoO:=an.s2 aj aoN aI Tryz.func218 pG
def aoP:=an.s2 aj aoO aI Tryz.func212 rK
def aoQ:=an.s2 aj aoP aI Tryz.func248 Ka
def aoR:=an.s2 aj aoQ aI Tryz.func220 M1
def aoS:=an.s2 aj aoR aI Tryz.func170 C3
def aoT:=an.s2 aj aoS aI Tryz.func119 Kb
def aoU:=an.s2 aj aoT aI Tryz.func214 ud
def aoV:=an.s2 aj aoU aI Tryz.func215 vG
def aoW:=an.s3 aj aoV aI Tryz.func165 C4
def aoX:=an.s2 aj aoW aI Tryz.func171 Fj
def aoY:an S Vr:=an.s4 aj aoX aI Tryz.func120 Wi
def aoZ:an S Vv:=an.step aj aoY aI Tryz.func97 bp (λps r h=>by
 unfold kL at h;try dsimp only at h
 split at h
 .rw[eq_97];exact h
 .cases h)
def ao0:an S Vy:=an.step aj aoZ aI Tryz.func115 bp (λps r h=>by
 unfold jX at h;try dsimp only at h
 split at h
 .rw[eq_115];exact h
 .cases h)
def ao1:an S adP:=an.step aj ao0 aI Tryz.func99 bp (λps r h=>by
 unfold kM at h;try dsimp only at h
 split at h
 .rw[eq_99];exact h
 .cases h)
def ao2:an S Vs:=an.s1 aj ao1 aI Tryz.func102 A2
def ao3:an S adQ:=an.step aj ao2 aI Tryz.func101 bp (λps r h=>by
 unfold kN at h;try dsimp only at h
 split at h
 .rw[eq_101];exact h
 .cases h)
def ao4:an S Vz:=an.s2 aj ao3 aI Tryz.func104 kq
def ao5:an S adR:=an.step aj ao4 aI Tryz.func103 bp (λps r h=>by
 unfold kO at h;try dsimp only at h
 split at h
 .rw[eq_103];exact h
 .cases h)
def ao6:an S Vt:=an.s4 aj ao5 aI Tryz.func106 Kc
def ao7:an S adS:=an.step aj ao6 aI Tryz.func105 bp (λps r h=>by
 unfold kP at h;try dsimp only at h
 split at h
 .rw[eq_105];exact h
 .cases h)
def ao8:=an.s1 aj ao7 aI Tryz.func161 yy
def ao9:=an.s1 aj ao8 aI Tryz.func210 A3
def apa:=an.s2 aj ao9 aI Tryz.func160 A4
def apb:an S Vw:=an.s2 aj apa aI Tryz.func108 yz
def apc:an S adT:=an.step aj apb aI Tryz.func107 bp (λps r h=>by
 unfold kQ at h;try dsimp only at h
 split at h
 .rw[eq_107];exact h
 .cases h)
def apd:=an.s2 aj apc aI Tryz.func163 yA
def ape:=an.s2 aj apd aI Tryz.func213 C5
def apf:an S Vx:=an.s3 aj ape aI Tryz.func164 C6
def apg:an S adU:=an.step aj apf aI Tryz.func211 bp (λps r h=>by
 unfold iH at h;try dsimp only at h
 split at h
 .rw[eq_211];exact h
 .cases h)
def aph:=an.s4 aj apg aI Tryz.func162 Fk
def apj:an S Vu:=an.s3 aj aph aI Tryz.func110 C7
def apk:an S adV:=an.step aj apj aI Tryz.func109 bp (λps r h=>by
 unfold kR at h;try dsimp only at h
 split at h
 .rw[eq_109];exact h
 .cases h)
def apl:an S VA:=an.s4 aj apk aI Tryz.func112 lC
def apm:an S Vq:=an.step aj apl aI Tryz.func111 bp (λps r h=>by
 unfold kS at h;try dsimp only at h
 split at h
 .rw[eq_111];exact h
 .cases h)
def apn:an S adW:=an.step aj apm aI Tryz.func113 bp (λps r h=>by
 unfold kT at h;try dsimp only at h
 split at h
 .rw[eq_113];exact h
 .cases h)
def apo:=an.s1 aj apn aI Tryz.func54 yB
def apq:=an.s2 aj apo aI Tryz.func56 Ke
def apr:=an.s3 aj apq aI Tryz.func118 M3
def aps:=an.s3 aj apr aI Tryz.func55 BZ
def apt:=an.s3 aj aps aI Tryz.func30 CM
def apu:=an.s2 aj apt aI Tryz.func39 CI
def apv:=an.s4 aj apu aI Tryz.func135 GV
def apw:=an.s1 aj apv aI Tryz.func132 zf
def apx:=an.s3 aj apw aI Tryz.func65 xZ
def apy:=an.s2 aj apx aI Tryz.func38 yb
def apz:=an.s1 aj apy aI Tryz.func199 ER
def apA:=an.s2 aj apz aI Tryz.func134 vu
def apB:=an.s3 aj apA aI Tryz.func64 CG
def apC:=an.s2 aj apB aI Tryz.func37 CH
def apD:=an.s2 aj apC aI Tryz.func13 QK
def apE:=an.s1 aj apD aI Tryz.func53 Hz
def apF:=an.s1 aj apE aI Tryz.func52 M4
def apG:=an.s1 aj apF aI Tryz.func28 HA
def apH:=an.s2 aj apG aI Tryz.func8 BW
def apI:=an.s2 aj apH aI Tryz.func33 IA
def apJ:=an.s2 aj apI aI Tryz.func188 HB
def apK:=an.s2 aj apJ aI Tryz.func127 HC
def apL:=an.s3 aj apK aI Tryz.func189 G4
def apM:=an.s2 aj apL aI Tryz.func128 CO
def apN:=an.s2 aj apM aI Tryz.func60 GY
def apO:=an.s2 aj apN aI Tryz.func264 Kf
def apP:=an.s1 aj apO aI Tryz.func263 vH
def apQ:=an.s1 aj apP aI Tryz.func225 HD
def apR:=an.s1 aj apQ aI Tryz.func267 B5
def apS:=an.s1 aj apR aI Tryz.func266 HE
def apT:=an.s1 aj apS aI Tryz.func227 HF
def apU:=an.s2 aj apT aI Tryz.func228 mV
def apV:=an.s1 aj apU aI Tryz.func265 Kg
def apW:=an.s1 aj apV aI Tryz.func226 HG
def apX:=an.s2 aj apW aI Tryz.func290 Kh
def apY:=an.s2 aj apX aI Tryz.func291 HH
def apZ:=an.s5 aj apY aI Tryz.func268 M5
def ap0:=an.s4 aj apZ aI Tryz.func229 HI
def ap1:=an.s1 aj ap0 aI Tryz.func270 HJ
def ap2:=an.s3 aj ap1 aI Tryz.func236 HK
def ap3:=an.s2 aj ap2 aI Tryz.func183 B6
def ap4:=an.s1 aj ap3 aI Tryz.func235 zn
def ap5:=an.s2 aj ap4 aI Tryz.func269 Ki
def ap6:=an.s2 aj ap5 aI Tryz.func230 HL
def ap7:=an.s2 aj ap6 aI Tryz.func294 M6
def ap8:=an.s2 aj ap7 aI Tryz.func185 Kj
def ap9:=an.s2 aj ap8 aI Tryz.func295 HM
def aqa:=an.s2 aj ap9 aI Tryz.func292 Rl
def aqb:=an.s2 aj aqa aI Tryz.func293 A5
def aqc:=an.s4 aj aqb aI Tryz.func271 M7
def aqd:=an.s3 aj aqc aI Tryz.func231 HN
def aqe:=an.s3 aj aqd aI Tryz.func187 HO
def aqf:=an.s5 aj aqe aI Tryz.func272 yC
def aqg:=an.s4 aj aqf aI Tryz.func232 mW
def aqh:=an.s3 aj aqg aI Tryz.func273 Fl
def aqi:=an.s1 aj aqh aI Tryz.func274 HP
def aqj:=an.s1 aj aqi aI Tryz.func233 HQ
def aqk:=an.s2 aj aqj aI Tryz.func178 Kk
def aql:=an.s1 aj aqk aI Tryz.func122 HR
def aqm:=an.s3 aj aql aI Tryz.func186 Km
def aqn:=an.s3 aj aqm aI Tryz.func126 Kn
def aqo:=an.s1 aj aqn aI Tryz.func275 C8
def aqp:=an.s4 aj aqo aI Tryz.func234 Fm
def aqq:=an.s4 aj aqp aI Tryz.func179 Fo
def aqr:=an.s2 aj aqq aI Tryz.func182 yD
def aqs:=an.s2 aj aqr aI Tryz.func180 A6
def aqt:=an.s5 aj aqs aI Tryz.func181 M8
def aqu:=an.s2 aj aqt aI Tryz.func124 M9
def aqv:=an.s2 aj aqu aI Tryz.func237 yE
def aqw:=an.s2 aj aqv aI Tryz.func184 C9
def aqx:=an.s1 aj aqw aI Tryz.func123 A7
def aqy:=an.s2 aj aqx aI Tryz.func125 HS
def aqz:=an.s2 aj aqy aI Tryz.func59 HT
def aqA:=an.s3 aj aqz aI Tryz.func58 Fq
def aqB:=an.s3 aj aqA aI Tryz.func32 GZ
def aqC:an S VB:=an.s5 aj aqB aI Tryz.func11 IB
def aqD:an S adX:=an.step aj aqC aI Tryz.func9 bp (λps r h=>by
 unfold cH at h;try dsimp only at h
 split at h
 .rw[eq_9];exact h
 .cases h)
def aqE:=an.s2 aj aqD aI Tryz.func45 ry
def aqF:=an.s1 aj aqE aI Tryz.func18 tn
def aqG:=an.s1 aj aqF aI Tryz.func20 tt
def aqH:=an.s1 aj aqG aI Tryz.func21 vw
def aqI:=an.s1 aj aqH aI Tryz.func23 pD
def aqJ:=an.s2 aj aqI aI Tryz.func12 JW
def aqK:an S adY:=an.s2 aj aqJ aI Tryz.func4 qB
end Go.Proofs.YtoaknfoobjnjgaaGreat
