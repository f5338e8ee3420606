import Derived.Test.YtmbihgjlollbeaaGreatEq1
import Derived.Test.YtmbihgjlollbeaaGreatEq2
import Derived.Test.YtmbihgjlollbeaaGreatEq3
import Derived.Test.YtmbihgjlollbeaaGreatEq4
import Derived.Test.YtmbihgjlollbeaaGreatLays
import Derived.Test.YtmbihgjlollbeaaGreatAbSortKOk
import Derived.Test.YtmbihgjlollbeaaGreatExt
namespace Go.Proofs.YtmbihgjlollbeaaGreat
open Go.Ab
theorem IK:vO S0:=⟨by kernel_rfl,(fun g h hh=>by cases hh),by kernel_rfl⟩
theorem adJ:aa S0 ZE:=aa.nil S0
theorem PB:ux S0 ae:=ux.nil S0
theorem adK:aa S0 Vv:=fun x hx=>(abX.1 hx).elim (fun e=>e▸XY) (fun h=>adJ x h)
theorem adL:aa S0 Vy:=aa.step IK adK PB Tryz.func238 (by kernel_rfl) (fun ps r h=>by
 unfold dK at h;split at h
 ·rw[eq_238];exact h
 ·cases h)
theorem adM:aa S0 VA:=aa.step IK adL PB Tryz.func237 (by kernel_rfl) (fun ps r h=>by
 unfold mA at h;split at h
 ·rw[eq_237];exact h
 ·cases h)
theorem ZF:aa S0 Q7:=aa.step IK adM PB Tryz.func236 (by kernel_rfl) (fun ps r h=>by
 unfold bP at h;split at h
 ·rw[eq_236];exact h
 ·cases h)
theorem aaZ(g:Nat)(M:List PV→Option PV)(h:XN g=some M):tz S.P S.aF g M:=by
 unfold XN at h;cases e:Nat.beq g 236 with
 |true=>rw[e]at h;have:=BY e;subst this;cases h;exact ZF (236,bP) (vP (by kernel_rfl))
 |false=>rw[e]at h;cases h
theorem af:vO S:=⟨by kernel_rfl,(fun g h hh R args f m k r hr=>by
 have hh:(bif Nat.beq g 235 then some (wY 4 XN)else none)=some h:=hh;cases e:Nat.beq g 235 with
 |true=>rw[e]at hh;have:=BY e;subst this;cases hh;exact Hr XZ rfl ⟨Tryz.f235,_,Tryz.func235,rfl,by kernel_rfl⟩ Tryz.isAgg150 Tryz.sizeOf150 aaZ hr
 |false=>rw[e]at hh;cases hh),by kernel_rfl⟩
theorem ahd:aa S Q7:=fun x hx=>ZF x hx
theorem aq:ux S ae:=ux.nil S
theorem ahe:aa S Vw:=aa.step af ahd aq Tryz.func107 (by kernel_rfl) (fun ps r h=>by
 unfold il at h;split at h
 ·rw[eq_107];exact h
 ·cases h)
theorem ahf:aa S Vz:=aa.step af ahe aq Tryz.func130 (by kernel_rfl) (fun ps r h=>by
 unfold qP at h;split at h
 ·rw[eq_130];exact h
 ·cases h)
theorem ahg:aa S VB:=aa.step af ahf aq Tryz.func78 (by kernel_rfl) (fun ps r h=>by
 unfold iW at h;split at h
 ·rw[eq_78];exact h
 ·cases h)
theorem ahh:aa S VC:=aa.step af ahg aq Tryz.func74 (by kernel_rfl) (fun ps r h=>by
 unfold mB at h;split at h
 ·rw[eq_74];exact h
 ·cases h)
theorem ahi:aa S Vx:=aa.step af ahh aq Tryz.func183 (by kernel_rfl) (fun ps r h=>by
 unfold eZ at h;split at h
 ·rw[eq_183];exact h
 ·cases h)
theorem adN:aa S N0:=aa.step af ahi aq Tryz.func184 (by kernel_rfl) (fun ps r h=>by
 unfold nf at h;split at h
 ·rw[eq_184];exact h
 ·cases h)
theorem adO:aa S Oo:=aa.step af adN aq Tryz.func129 (by kernel_rfl) (fun ps r h=>by
 unfold iX at h;split at h
 ·rw[eq_129];exact h
 ·cases h)
theorem adP:aa S OP:=aa.step af adO aq Tryz.func77 (by kernel_rfl) (fun ps r h=>by
 unfold gb at h;split at h
 ·rw[eq_77];exact h
 ·cases h)
theorem adQ:aa S ND:=aa.step af adP aq Tryz.func109 (by kernel_rfl) (fun ps r h=>by
 unfold iY at h;split at h
 ·rw[eq_109];exact h
 ·cases h)
theorem adR:aa S N1:=aa.step af adQ aq Tryz.func76 (by kernel_rfl) (fun ps r h=>by
 unfold iH at h;split at h
 ·rw[eq_76];exact h
 ·cases h)
theorem adS:aa S Oq:=aa.step af adR aq Tryz.func75 (by kernel_rfl) (fun ps r h=>by
 unfold eG at h;split at h
 ·rw[eq_75];exact h
 ·cases h)
theorem adT:aa S OQ:=aa.step af adS aq Tryz.func29 (by kernel_rfl) (fun ps r h=>by
 unfold mC at h;split at h
 ·rw[eq_29];exact h
 ·cases h)
theorem adU:aa S NF:=aa.step af adT aq Tryz.func25 (by kernel_rfl) (fun ps r h=>by
 unfold iI at h;split at h
 ·rw[eq_25];exact h
 ·cases h)
theorem adV:aa S N2:=aa.step af adU aq Tryz.func79 (by kernel_rfl) (fun ps r h=>by
 unfold iJ at h;split at h
 ·rw[eq_79];exact h
 ·cases h)
theorem adW:aa S Ot:=aa.step af adV aq Tryz.func26 (by kernel_rfl) (fun ps r h=>by
 unfold oC at h;split at h
 ·rw[eq_26];exact h
 ·cases h)
theorem adX:aa S OR:=aa.step af adW aq Tryz.func131 (by kernel_rfl) (fun ps r h=>by
 unfold iK at h;split at h
 ·rw[eq_131];exact h
 ·cases h)
theorem adY:aa S NG:=aa.step af adX aq Tryz.func73 (by kernel_rfl) (fun ps r h=>by
 unfold iL at h;split at h
 ·rw[eq_73];exact h
 ·cases h)
theorem adZ:aa S N3:=aa.step af adY aq Tryz.func118 (by kernel_rfl) (fun ps r h=>by
 unfold bt at h;split at h
 ·rw[eq_118];exact h
 ·cases h)
theorem ad0:aa S Ou:=aa.step af adZ aq Tryz.func156 (by kernel_rfl) (fun ps r h=>by
 unfold iy at h;split at h
 ·rw[eq_156];exact h
 ·cases h)
theorem ad1:aa S OS:=aa.step af ad0 aq Tryz.func97 (by kernel_rfl) (fun ps r h=>by
 unfold aY at h;split at h
 ·rw[eq_97];exact h
 ·cases h)
theorem ad2:aa S NH:=aa.step af ad1 aq Tryz.func155 (by kernel_rfl) (fun ps r h=>by
 unfold cy at h;split at h
 ·rw[eq_155];exact h
 ·cases h)
theorem ad3:aa S N4:=aa.step af ad2 aq Tryz.func99 (by kernel_rfl) (fun ps r h=>by
 unfold dA at h;split at h
 ·rw[eq_99];exact h
 ·cases h)
theorem ad4:aa S Ov:=aa.step af ad3 aq Tryz.func260 (by kernel_rfl) (fun ps r h=>by
 unfold dv at h;split at h
 ·rw[eq_260];exact h
 ·cases h)
theorem ad5:aa S OT:=aa.step af ad4 aq Tryz.func246 (by kernel_rfl) (fun ps r h=>by
 unfold gI at h;split at h
 ·rw[eq_246];exact h
 ·cases h)
theorem ad6:aa S NI:=aa.step af ad5 aq Tryz.func262 (by kernel_rfl) (fun ps r h=>by
 unfold fR at h;split at h
 ·rw[eq_262];exact h
 ·cases h)
theorem ad7:aa S N5:=aa.step af ad6 aq Tryz.func270 (by kernel_rfl) (fun ps r h=>by
 unfold aN at h;split at h
 ·rw[eq_270];exact h
 ·cases h)
theorem ad8:aa S Ow:=aa.step af ad7 aq Tryz.func249 (by kernel_rfl) (fun ps r h=>by
 unfold eQ at h;split at h
 ·rw[eq_249];exact h
 ·cases h)
theorem ad9:aa S OU:=aa.step af ad8 aq Tryz.func248 (by kernel_rfl) (fun ps r h=>by
 unfold fE at h;split at h
 ·rw[eq_248];exact h
 ·cases h)
theorem aea:aa S NJ:=aa.step af ad9 aq Tryz.func247 (by kernel_rfl) (fun ps r h=>by
 unfold eF at h;split at h
 ·rw[eq_247];exact h
 ·cases h)
theorem aeb:aa S N6:=aa.step af aea aq Tryz.func242 (by kernel_rfl) (fun ps r h=>by
 unfold fG at h;split at h
 ·rw[eq_242];exact h
 ·cases h)
theorem aec:aa S Ox:=aa.step af aeb aq Tryz.func233 (by kernel_rfl) (fun ps r h=>by
 unfold dC at h;split at h
 ·rw[eq_233];exact h
 ·cases h)
theorem aed:aa S OV:=aa.step af aec aq Tryz.func204 (by kernel_rfl) (fun ps r h=>by
 unfold eg at h;split at h
 ·rw[eq_204];exact h
 ·cases h)
theorem aee:aa S NK:=aa.step af aed aq Tryz.func116 (by kernel_rfl) (fun ps r h=>by
 unfold fl at h;split at h
 ·rw[eq_116];exact h
 ·cases h)
theorem aef:aa S N7:=aa.step af aee aq Tryz.func157 (by kernel_rfl) (fun ps r h=>by
 unfold eX at h;split at h
 ·rw[eq_157];exact h
 ·cases h)
theorem aeg:aa S Oy:=aa.step af aef aq Tryz.func100 (by kernel_rfl) (fun ps r h=>by
 unfold cg at h;split at h
 ·rw[eq_100];exact h
 ·cases h)
theorem aeh:aa S OW:=aa.step af aeg aq Tryz.func164 (by kernel_rfl) (fun ps r h=>by
 unfold qH at h;split at h
 ·rw[eq_164];exact h
 ·cases h)
theorem aei:aa S NL:=aa.step af aeh aq Tryz.func108 (by kernel_rfl) (fun ps r h=>by
 unfold jH at h;split at h
 ·rw[eq_108];exact h
 ·cases h)
theorem aej:aa S N8:=aa.step af aei aq Tryz.func105 (by kernel_rfl) (fun ps r h=>by
 unfold dG at h;split at h
 ·rw[eq_105];exact h
 ·cases h)
theorem aek:aa S Oz:=aa.step af aej aq Tryz.func98 (by kernel_rfl) (fun ps r h=>by
 unfold eY at h;split at h
 ·rw[eq_98];exact h
 ·cases h)
theorem ael:aa S OX:=aa.step af aek aq Tryz.func96 (by kernel_rfl) (fun ps r h=>by
 unfold dt at h;split at h
 ·rw[eq_96];exact h
 ·cases h)
theorem aem:aa S NM:=aa.step af ael aq Tryz.func117 (by kernel_rfl) (fun ps r h=>by
 unfold bM at h;split at h
 ·rw[eq_117];exact h
 ·cases h)
theorem aen:aa S N9:=aa.step af aem aq Tryz.func66 (by kernel_rfl) (fun ps r h=>by
 unfold cS at h;split at h
 ·rw[eq_66];exact h
 ·cases h)
theorem aeo:aa S OA:=aa.step af aen aq Tryz.func106 (by kernel_rfl) (fun ps r h=>by
 unfold nE at h;split at h
 ·rw[eq_106];exact h
 ·cases h)
theorem aep:aa S OY:=aa.step af aeo aq Tryz.func50 (by kernel_rfl) (fun ps r h=>by
 unfold iD at h;split at h
 ·rw[eq_50];exact h
 ·cases h)
theorem aeq:aa S NN:=aa.step af aep aq Tryz.func48 (by kernel_rfl) (fun ps r h=>by
 unfold jF at h;split at h
 ·rw[eq_48];exact h
 ·cases h)
theorem aer:aa S Oa:=aa.step af aeq aq Tryz.func38 (by kernel_rfl) (fun ps r h=>by
 unfold dP at h;split at h
 ·rw[eq_38];exact h
 ·cases h)
theorem aes:aa S OB:=aa.step af aer aq Tryz.func67 (by kernel_rfl) (fun ps r h=>by
 unfold dZ at h;split at h
 ·rw[eq_67];exact h
 ·cases h)
theorem aet:aa S OZ:=aa.step af aes aq Tryz.func126 (by kernel_rfl) (fun ps r h=>by
 unfold sm at h;split at h
 ·rw[eq_126];exact h
 ·cases h)
theorem aeu:aa S NO:=aa.step af aet aq Tryz.func181 (by kernel_rfl) (fun ps r h=>by
 unfold kY at h;split at h
 ·rw[eq_181];exact h
 ·cases h)
theorem aev:aa S Ob:=aa.step af aeu aq Tryz.func225 (by kernel_rfl) (fun ps r h=>by
 unfold sn at h;split at h
 ·rw[eq_225];exact h
 ·cases h)
theorem aew:aa S OC:=aa.step af aev aq Tryz.func180 (by kernel_rfl) (fun ps r h=>by
 unfold kZ at h;split at h
 ·rw[eq_180];exact h
 ·cases h)
theorem aex:aa S O0:=aa.step af aew aq Tryz.func222 (by kernel_rfl) (fun ps r h=>by
 unfold im at h;split at h
 ·rw[eq_222];exact h
 ·cases h)
theorem aey:aa S NP:=aa.step af aex aq Tryz.func224 (by kernel_rfl) (fun ps r h=>by
 unfold jZ at h;split at h
 ·rw[eq_224];exact h
 ·cases h)
theorem aez:aa S Oc:=aa.step af aey aq Tryz.func220 (by kernel_rfl) (fun ps r h=>by
 unfold oD at h;split at h
 ·rw[eq_220];exact h
 ·cases h)
theorem aeA:aa S OD:=aa.step af aez aq Tryz.func179 (by kernel_rfl) (fun ps r h=>by
 unfold ng at h;split at h
 ·rw[eq_179];exact h
 ·cases h)
theorem aeB:aa S O1:=aa.step af aeA aq Tryz.func125 (by kernel_rfl) (fun ps r h=>by
 unfold so at h;split at h
 ·rw[eq_125];exact h
 ·cases h)
theorem aeC:aa S NQ:=aa.step af aeB aq Tryz.func124 (by kernel_rfl) (fun ps r h=>by
 unfold tZ at h;split at h
 ·rw[eq_124];exact h
 ·cases h)
theorem aeD:aa S Od:=aa.step af aeC aq Tryz.func71 (by kernel_rfl) (fun ps r h=>by
 unfold ua at h;split at h
 ·rw[eq_71];exact h
 ·cases h)
theorem aeE:aa S OE:=aa.step af aeD aq Tryz.func177 (by kernel_rfl) (fun ps r h=>by
 unfold pk at h;split at h
 ·rw[eq_177];exact h
 ·cases h)
theorem aeF:aa S O2:=aa.step af aeE aq Tryz.func122 (by kernel_rfl) (fun ps r h=>by
 unfold wC at h;split at h
 ·rw[eq_122];exact h
 ·cases h)
theorem aeG:aa S NR:=aa.step af aeF aq Tryz.func123 (by kernel_rfl) (fun ps r h=>by
 unfold nh at h;split at h
 ·rw[eq_123];exact h
 ·cases h)
theorem aeH:aa S Oe:=aa.step af aeG aq Tryz.func176 (by kernel_rfl) (fun ps r h=>by
 unfold mD at h;split at h
 ·rw[eq_176];exact h
 ·cases h)
theorem aeI:aa S OG:=aa.step af aeH aq Tryz.func121 (by kernel_rfl) (fun ps r h=>by
 unfold oE at h;split at h
 ·rw[eq_121];exact h
 ·cases h)
theorem aeJ:aa S O3:=aa.step af aeI aq Tryz.func70 (by kernel_rfl) (fun ps r h=>by
 unfold iv at h;split at h
 ·rw[eq_70];exact h
 ·cases h)
theorem aeK:aa S NS:=aa.step af aeJ aq Tryz.func72 (by kernel_rfl) (fun ps r h=>by
 unfold jq at h;split at h
 ·rw[eq_72];exact h
 ·cases h)
theorem aeL:aa S Of:=aa.step af aeK aq Tryz.func24 (by kernel_rfl) (fun ps r h=>by
 unfold gF at h;split at h
 ·rw[eq_24];exact h
 ·cases h)
theorem aeM:aa S OH:=aa.step af aeL aq Tryz.func69 (by kernel_rfl) (fun ps r h=>by
 unfold jo at h;split at h
 ·rw[eq_69];exact h
 ·cases h)
theorem aeN:aa S O4:=aa.step af aeM aq Tryz.func215 (by kernel_rfl) (fun ps r h=>by
 unfold aK at h;split at h
 ·rw[eq_215];exact h
 ·cases h)
theorem aeO:aa S NT:=aa.step af aeN aq Tryz.func216 (by kernel_rfl) (fun ps r h=>by
 unfold cE at h;split at h
 ·rw[eq_216];exact h
 ·cases h)
theorem aeP:aa S Og:=aa.step af aeO aq Tryz.func217 (by kernel_rfl) (fun ps r h=>by
 unfold dW at h;split at h
 ·rw[eq_217];exact h
 ·cases h)
theorem aeQ:aa S OI:=aa.step af aeP aq Tryz.func174 (by kernel_rfl) (fun ps r h=>by
 unfold fL at h;split at h
 ·rw[eq_174];exact h
 ·cases h)
theorem aeR:aa S O5:=aa.step af aeQ aq Tryz.func172 (by kernel_rfl) (fun ps r h=>by
 unfold gh at h;split at h
 ·rw[eq_172];exact h
 ·cases h)
theorem aeS:aa S NU:=aa.step af aeR aq Tryz.func173 (by kernel_rfl) (fun ps r h=>by
 unfold gJ at h;split at h
 ·rw[eq_173];exact h
 ·cases h)
theorem aeT:aa S Oh:=aa.step af aeS aq Tryz.func218 (by kernel_rfl) (fun ps r h=>by
 unfold dX at h;split at h
 ·rw[eq_218];exact h
 ·cases h)
theorem aeU:aa S OJ:=aa.step af aeT aq Tryz.func219 (by kernel_rfl) (fun ps r h=>by
 unfold eS at h;split at h
 ·rw[eq_219];exact h
 ·cases h)
theorem aeV:aa S O6:=aa.step af aeU aq Tryz.func175 (by kernel_rfl) (fun ps r h=>by
 unfold gi at h;split at h
 ·rw[eq_175];exact h
 ·cases h)
theorem aeW:aa S NV:=aa.step af aeV aq Tryz.func212 (by kernel_rfl) (fun ps r h=>by
 unfold fH at h;split at h
 ·rw[eq_212];exact h
 ·cases h)
theorem aeX:aa S Oi:=aa.step af aeW aq Tryz.func211 (by kernel_rfl) (fun ps r h=>by
 unfold eH at h;split at h
 ·rw[eq_211];exact h
 ·cases h)
theorem aeY:aa S OK:=aa.step af aeX aq Tryz.func240 (by kernel_rfl) (fun ps r h=>by
 unfold gj at h;split at h
 ·rw[eq_240];exact h
 ·cases h)
theorem aeZ:aa S O7:=aa.step af aeY aq Tryz.func214 (by kernel_rfl) (fun ps r h=>by
 unfold gK at h;split at h
 ·rw[eq_214];exact h
 ·cases h)
theorem ae0:aa S NW:=aa.step af aeZ aq Tryz.func213 (by kernel_rfl) (fun ps r h=>by
 unfold gL at h;split at h
 ·rw[eq_213];exact h
 ·cases h)
theorem ae1:aa S Oj:=aa.step af ae0 aq Tryz.func171 (by kernel_rfl) (fun ps r h=>by
 unfold iq at h;split at h
 ·rw[eq_171];exact h
 ·cases h)
theorem ae2:aa S OL:=aa.step af ae1 aq Tryz.func119 (by kernel_rfl) (fun ps r h=>by
 unfold gk at h;split at h
 ·rw[eq_119];exact h
 ·cases h)
theorem ae3:aa S O8:=aa.step af ae2 aq Tryz.func68 (by kernel_rfl) (fun ps r h=>by
 unfold oF at h;split at h
 ·rw[eq_68];exact h
 ·cases h)
theorem ae4:aa S NX:=aa.step af ae3 aq Tryz.func23 (by kernel_rfl) (fun ps r h=>by
 unfold gG at h;split at h
 ·rw[eq_23];exact h
 ·cases h)
theorem ae5:aa S Ol:=aa.step af ae4 aq Tryz.func47 (by kernel_rfl) (fun ps r h=>by
 unfold j1 at h;split at h
 ·rw[eq_47];exact h
 ·cases h)
theorem ae6:aa S OM:=aa.step af ae5 aq Tryz.func65 (by kernel_rfl) (fun ps r h=>by
 unfold ju at h;split at h
 ·rw[eq_65];exact h
 ·cases h)
theorem ae7:aa S O9:=aa.step af ae6 aq Tryz.func49 (by kernel_rfl) (fun ps r h=>by
 unfold j2 at h;split at h
 ·rw[eq_49];exact h
 ·cases h)
theorem ae8:aa S NY:=aa.step af ae7 aq Tryz.func52 (by kernel_rfl) (fun ps r h=>by
 unfold ni at h;split at h
 ·rw[eq_52];exact h
 ·cases h)
theorem ae9:aa S Om:=aa.step af ae8 aq Tryz.func51 (by kernel_rfl) (fun ps r h=>by
 unfold j3 at h;split at h
 ·rw[eq_51];exact h
 ·cases h)
theorem afa:aa S ON:=aa.step af ae9 aq Tryz.func54 (by kernel_rfl) (fun ps r h=>by
 unfold fI at h;split at h
 ·rw[eq_54];exact h
 ·cases h)
theorem afb:aa S Pa:=aa.step af afa aq Tryz.func53 (by kernel_rfl) (fun ps r h=>by
 unfold j4 at h;split at h
 ·rw[eq_53];exact h
 ·cases h)
theorem afc:aa S NZ:=aa.step af afb aq Tryz.func56 (by kernel_rfl) (fun ps r h=>by
 unfold ub at h;split at h
 ·rw[eq_56];exact h
 ·cases h)
theorem afd:aa S On:=aa.step af afc aq Tryz.func55 (by kernel_rfl) (fun ps r h=>by
 unfold j5 at h;split at h
 ·rw[eq_55];exact h
 ·cases h)
theorem afe:aa S OO:=aa.step af afd aq Tryz.func111 (by kernel_rfl) (fun ps r h=>by
 unfold gd at h;split at h
 ·rw[eq_111];exact h
 ·cases h)
theorem aa0:aa S Ic:=aa.step af afe aq Tryz.func165 (by kernel_rfl) (fun ps r h=>by
 unfold nj at h;split at h
 ·rw[eq_165];exact h
 ·cases h)
theorem aa1:aa S Hv:=aa.step af aa0 aq Tryz.func110 (by kernel_rfl) (fun ps r h=>by
 unfold nk at h;split at h
 ·rw[eq_110];exact h
 ·cases h)
theorem aa2:aa S HJ:=aa.step af aa1 aq Tryz.func58 (by kernel_rfl) (fun ps r h=>by
 unfold mE at h;split at h
 ·rw[eq_58];exact h
 ·cases h)
theorem aa3:aa S HY:=aa.step af aa2 aq Tryz.func57 (by kernel_rfl) (fun ps r h=>by
 unfold j6 at h;split at h
 ·rw[eq_57];exact h
 ·cases h)
theorem aa4:aa S Ie:=aa.step af aa3 aq Tryz.func113 (by kernel_rfl) (fun ps r h=>by
 unfold mF at h;split at h
 ·rw[eq_113];exact h
 ·cases h)
theorem aa5:aa S Hw:=aa.step af aa4 aq Tryz.func210 (by kernel_rfl) (fun ps r h=>by
 unfold qQ at h;split at h
 ·rw[eq_210];exact h
 ·cases h)
theorem aa6:aa S HK:=aa.step af aa5 aq Tryz.func167 (by kernel_rfl) (fun ps r h=>by
 unfold oG at h;split at h
 ·rw[eq_167];exact h
 ·cases h)
theorem aa7:aa S HZ:=aa.step af aa6 aq Tryz.func114 (by kernel_rfl) (fun ps r h=>by
 unfold oH at h;split at h
 ·rw[eq_114];exact h
 ·cases h)
theorem aa8:aa S Ig:=aa.step af aa7 aq Tryz.func166 (by kernel_rfl) (fun ps r h=>by
 unfold jJ at h;split at h
 ·rw[eq_166];exact h
 ·cases h)
theorem aa9:aa S Hx:=aa.step af aa8 aq Tryz.func112 (by kernel_rfl) (fun ps r h=>by
 unfold mG at h;split at h
 ·rw[eq_112];exact h
 ·cases h)
theorem aba:aa S HL:=aa.step af aa9 aq Tryz.func60 (by kernel_rfl) (fun ps r h=>by
 unfold oI at h;split at h
 ·rw[eq_60];exact h
 ·cases h)
theorem abb:aa S H0:=aa.step af aba aq Tryz.func59 (by kernel_rfl) (fun ps r h=>by
 unfold j7 at h;split at h
 ·rw[eq_59];exact h
 ·cases h)
theorem abc:aa S Ih:=aa.step af abb aq Tryz.func168 (by kernel_rfl) (fun ps r h=>by
 unfold j8 at h;split at h
 ·rw[eq_168];exact h
 ·cases h)
theorem abd:aa S Hy:=aa.step af abc aq Tryz.func169 (by kernel_rfl) (fun ps r h=>by
 unfold k8 at h;split at h
 ·rw[eq_169];exact h
 ·cases h)
theorem abe:aa S HM:=aa.step af abd aq Tryz.func115 (by kernel_rfl) (fun ps r h=>by
 unfold oJ at h;split at h
 ·rw[eq_115];exact h
 ·cases h)
theorem abf:aa S H2:=aa.step af abe aq Tryz.func62 (by kernel_rfl) (fun ps r h=>by
 unfold fM at h;split at h
 ·rw[eq_62];exact h
 ·cases h)
theorem abg:aa S Ii:=aa.step af abf aq Tryz.func61 (by kernel_rfl) (fun ps r h=>by
 unfold j9 at h;split at h
 ·rw[eq_61];exact h
 ·cases h)
theorem abh:aa S Hz:=aa.step af abg aq Tryz.func64 (by kernel_rfl) (fun ps r h=>by
 unfold nm at h;split at h
 ·rw[eq_64];exact h
 ·cases h)
theorem abi:aa S HN:=aa.step af abh aq Tryz.func63 (by kernel_rfl) (fun ps r h=>by
 unfold kc at h;split at h
 ·rw[eq_63];exact h
 ·cases h)
theorem abj:aa S H3:=aa.step af abi aq Tryz.func22 (by kernel_rfl) (fun ps r h=>by
 unfold iR at h;split at h
 ·rw[eq_22];exact h
 ·cases h)
theorem abk:aa S Ij:=aa.step af abj aq Tryz.func10 (by kernel_rfl) (fun ps r h=>by
 unfold fQ at h;split at h
 ·rw[eq_10];exact h
 ·cases h)
theorem abl:aa S HA:=aa.step af abk aq Tryz.func101 (by kernel_rfl) (fun ps r h=>by
 unfold cV at h;split at h
 ·rw[eq_101];exact h
 ·cases h)
theorem abm:aa S HO:=aa.step af abl aq Tryz.func40 (by kernel_rfl) (fun ps r h=>by
 unfold aX at h;split at h
 ·rw[eq_40];exact h
 ·cases h)
theorem abn:aa S H4:=aa.step af abm aq Tryz.func39 (by kernel_rfl) (fun ps r h=>by
 unfold gD at h;split at h
 ·rw[eq_39];exact h
 ·cases h)
theorem abo:aa S Ik:=aa.step af abn aq Tryz.func102 (by kernel_rfl) (fun ps r h=>by
 unfold fY at h;split at h
 ·rw[eq_102];exact h
 ·cases h)
theorem abp:aa S HB:=aa.step af abo aq Tryz.func41 (by kernel_rfl) (fun ps r h=>by
 unfold fA at h;split at h
 ·rw[eq_41];exact h
 ·cases h)
theorem abq:aa S HP:=aa.step af abp aq Tryz.func15 (by kernel_rfl) (fun ps r h=>by
 unfold cq at h;split at h
 ·rw[eq_15];exact h
 ·cases h)
theorem abr:aa S H5:=aa.step af abq aq Tryz.func13 (by kernel_rfl) (fun ps r h=>by
 unfold ef at h;split at h
 ·rw[eq_13];exact h
 ·cases h)
theorem abt:aa S Il:=aa.step af abr aq Tryz.func19 (by kernel_rfl) (fun ps r h=>by
 unfold iZ at h;split at h
 ·rw[eq_19];exact h
 ·cases h)
theorem abu:aa S HC:=aa.step af abt aq Tryz.func20 (by kernel_rfl) (fun ps r h=>by
 unfold oK at h;split at h
 ·rw[eq_20];exact h
 ·cases h)
theorem abv:aa S HQ:=aa.step af abu aq Tryz.func21 (by kernel_rfl) (fun ps r h=>by
 unfold qR at h;split at h
 ·rw[eq_21];exact h
 ·cases h)
theorem abw:aa S H6:=aa.step af abv aq Tryz.func12 (by kernel_rfl) (fun ps r h=>by
 unfold uc at h;split at h
 ·rw[eq_12];exact h
 ·cases h)
theorem abx:aa S HR:=aa.step af abw aq Tryz.func9 (by kernel_rfl) (fun ps r h=>by
 unfold bN at h;split at h
 ·rw[eq_9];exact h
 ·cases h)
theorem aby:aa S H7:=aa.step af abx aq Tryz.func45 (by kernel_rfl) (fun ps r h=>by
 unfold sq at h;split at h
 ·rw[eq_45];exact h
 ·cases h)
theorem abz:aa S Im:=aa.step af aby aq Tryz.func46 (by kernel_rfl) (fun ps r h=>by
 unfold sr at h;split at h
 ·rw[eq_46];exact h
 ·cases h)
theorem abA:aa S HD:=aa.step af abz aq Tryz.func205 (by kernel_rfl) (fun ps r h=>by
 unfold dQ at h;split at h
 ·rw[eq_205];exact h
 ·cases h)
theorem abB:aa S HS:=aa.step af abA aq Tryz.func206 (by kernel_rfl) (fun ps r h=>by
 unfold bD at h;split at h
 ·rw[eq_206];exact h
 ·cases h)
theorem abC:aa S H8:=aa.step af abB aq Tryz.func163 (by kernel_rfl) (fun ps r h=>by
 unfold ku at h;split at h
 ·rw[eq_163];exact h
 ·cases h)
theorem abD:aa S Io:=aa.step af abC aq Tryz.func208 (by kernel_rfl) (fun ps r h=>by
 unfold ky at h;split at h
 ·rw[eq_208];exact h
 ·cases h)
theorem abE:aa S HE:=aa.step af abD aq Tryz.func161 (by kernel_rfl) (fun ps r h=>by
 unfold ml at h;split at h
 ·rw[eq_161];exact h
 ·cases h)
theorem abF:aa S HT:=aa.step af abE aq Tryz.func239 (by kernel_rfl) (fun ps r h=>by
 unfold fm at h;split at h
 ·rw[eq_239];exact h
 ·cases h)
theorem abG:aa S H9:=aa.step af abF aq Tryz.func209 (by kernel_rfl) (fun ps r h=>by
 unfold fB at h;split at h
 ·rw[eq_209];exact h
 ·cases h)
theorem abH:aa S Ip:=aa.step af abG aq Tryz.func162 (by kernel_rfl) (fun ps r h=>by
 unfold kx at h;split at h
 ·rw[eq_162];exact h
 ·cases h)
theorem abI:aa S HF:=aa.step af abH aq Tryz.func159 (by kernel_rfl) (fun ps r h=>by
 unfold jr at h;split at h
 ·rw[eq_159];exact h
 ·cases h)
theorem abJ:aa S HU:=aa.step af abI aq Tryz.func207 (by kernel_rfl) (fun ps r h=>by
 unfold kv at h;split at h
 ·rw[eq_207];exact h
 ·cases h)
theorem abK:aa S Ia:=aa.step af abJ aq Tryz.func160 (by kernel_rfl) (fun ps r h=>by
 unfold nW at h;split at h
 ·rw[eq_160];exact h
 ·cases h)
theorem abL:aa S Iq:=aa.step af abK aq Tryz.func158 (by kernel_rfl) (fun ps r h=>by
 unfold kr at h;split at h
 ·rw[eq_158];exact h
 ·cases h)
theorem abM:aa S HG:=aa.step af abL aq Tryz.func103 (by kernel_rfl) (fun ps r h=>by
 unfold kz at h;split at h
 ·rw[eq_103];exact h
 ·cases h)
theorem abN:aa S HH:=aa.step af abM aq Tryz.func42 (by kernel_rfl) (fun ps r h=>by
 unfold kq at h;split at h
 ·rw[eq_42];exact h
 ·cases h)
theorem abO:aa S HV:=aa.step af abN aq Tryz.func18 (by kernel_rfl) (fun ps r h=>by
 unfold ud at h;split at h
 ·rw[eq_18];exact h
 ·cases h)
theorem abP:aa S HW:=aa.step af abO aq Tryz.func8 (by kernel_rfl) (fun ps r h=>by
 unfold iC at h;split at h
 ·rw[eq_8];exact h
 ·cases h)
theorem abQ:aa S Ib:=aa.step af abP aq Tryz.func104 (by kernel_rfl) (fun ps r h=>by
 unfold iB at h;split at h
 ·rw[eq_104];exact h
 ·cases h)
theorem abR:aa S Ir:=aa.step af abQ aq Tryz.func43 (by kernel_rfl) (fun ps r h=>by
 unfold aZ at h;split at h
 ·rw[eq_43];exact h
 ·cases h)
theorem abS:aa S HI:=aa.step af abR aq Tryz.func44 (by kernel_rfl) (fun ps r h=>by
 unfold hU at h;split at h
 ·rw[eq_44];exact h
 ·cases h)
theorem abT:aa S HX:=aa.step af abS aq Tryz.func16 (by kernel_rfl) (fun ps r h=>by
 unfold ep at h;split at h
 ·rw[eq_16];exact h
 ·cases h)
theorem abU:aa S Rx:=aa.step af abT aq Tryz.func5 (by kernel_rfl) (fun ps r h=>by
 unfold dz at h;split at h
 ·rw[eq_5];exact h
 ·cases h)
end Go.Proofs.YtmbihgjlollbeaaGreat
