import Derived.Test.YtoaknfoobjnjgaaGreatEq1
import Derived.Test.YtoaknfoobjnjgaaGreatEqX
import Derived.Test.YtoaknfoobjnjgaaGreatLays
import Derived.Test.YtoaknfoobjnjgaaGreatAbSortKOk
namespace Go.Proofs.YtoaknfoobjnjgaaGreat
open Go.Ab
set_option maxRecDepth 1000000
theorem Oc:ni S0:=⟨by kernel_rfl,(fun g h hh=>by cases hh),by kernel_rfl⟩
theorem ajC:aa S0 afj:=aa.nil S0
theorem Tj:fa S0 F3:=fa.nil S0
theorem ajD:aa S0 afk:=aa.s2 Oc ajC Tj Tryz.func177 sJ
theorem ajE:aa S0 afl:=aa.s1 Oc ajD Tj Tryz.func176 DQ
theorem afm:aa S0 aa7:=aa.s2 Oc ajE Tj Tryz.func175 nH
theorem agz(g:Nat)(M:List PV→Option PV)(h:clo g=some M):AR S.P S.az g M:=by
 unfold clo at h;cases e:Nat.beq g 175 with
 |true=>rw[e]at h;have:=IT e;subst this;cases h;exact afm (175,cr) (Bb (by kernel_rfl))
 |false=>rw[e]at h;cases h
theorem ai:ni S:=⟨by kernel_rfl,(fun g h hh R args f m k r hr=>by
 have hh:(bif Nat.beq g 174 then some (Cv 4 clo)else none)=some h:=hh;cases e:Nat.beq g 174 with
 |true=>rw[e]at hh;have:=IT e;subst this;cases hh;exact Nt adY rfl ⟨Tryz.f174,_,Tryz.func174,rfl,by kernel_rfl⟩ Tryz.isAgg110 Tryz.sizeOf110 agz hr
 |false=>rw[e]at hh;cases hh),by kernel_rfl⟩
theorem amV:aa S aa7:=fun x hx=>afm x hx
theorem fy:fa S F3:=fa.nil S
theorem amW:aa S afn:=aa.s2 ai amV fy Tryz.func81 nu
theorem amX:aa S afo:=aa.s3 ai amW fy Tryz.func82 vc
theorem amY:aa S afp:=aa.s3 ai amX fy Tryz.func47 nv
theorem amZ:aa S afq:=aa.s2 ai amY fy Tryz.func79 E5
theorem am0:aa S afr:=aa.s2 ai amZ fy Tryz.func77 vd
theorem am1:aa S afs:=aa.s3 ai am0 fy Tryz.func201 xy
theorem ajF:aa S aa8:=aa.s3 ai am1 fy Tryz.func138 J3
theorem ajG:aa S aa9:=aa.s2 ai ajF fy Tryz.func200 uY
theorem ajH:aa S Sd:=aa.s1 ai ajG fy Tryz.func140 nA
theorem ajI:aa S aba:=aa.step ai ajH fy Tryz.func280 (by kernel_rfl) (fun ps r h=>by
 unfold dF at h;split at h
 ·rw[eq_280];exact h
 ·cases h)
theorem ajJ:aa S abb:=aa.s3 ai ajI fy Tryz.func249 va
theorem ajK:aa S St:=aa.s2 ai ajJ fy Tryz.func282 xB
theorem ajL:aa S abc:=aa.step ai ajK fy Tryz.func296 (by kernel_rfl) (fun ps r h=>by
 unfold aO at h;split at h
 ·rw[eq_296];exact h
 ·cases h)
theorem ajM:aa S abd:=aa.s3 ai ajL fy Tryz.func252 sI
theorem ajN:aa S abe:=aa.s1 ai ajM fy Tryz.func251 qQ
theorem ajO:aa S abf:=aa.s2 ai ajN fy Tryz.func250 nF
theorem ajP:aa S abg:=aa.s2 ai ajO fy Tryz.func221 zJ
theorem ajQ:aa S abh:=aa.s3 ai ajP fy Tryz.func172 nG
theorem ajR:aa S abi:=aa.s2 ai ajQ fy Tryz.func121 qR
theorem ajS:aa S abj:=aa.s2 ai ajR fy Tryz.func166 uZ
theorem ajT:aa S abk:=aa.s2 ai ajS fy Tryz.func202 pz
theorem ajU:aa S abl:=aa.s1 ai ajT fy Tryz.func141 ny
theorem ajV:aa S abm:=aa.s5 ai ajU fy Tryz.func208 JV
theorem ajW:aa S abn:=aa.s4 ai ajV fy Tryz.func158 DL
theorem ajX:aa S abo:=aa.s1 ai ajW fy Tryz.func143 Bt
theorem ajY:aa S abp:=aa.s1 ai ajX fy Tryz.func139 pA
theorem ajZ:aa S abq:=aa.s1 ai ajY fy Tryz.func137 xz
theorem aj0:aa S abr:=aa.s3 ai ajZ fy Tryz.func167 uX
theorem aj1:aa S abt:=aa.s1 ai aj0 fy Tryz.func116 xv
theorem aj2:aa S abu:=aa.s1 ai aj1 fy Tryz.func157 Bv
theorem aj3:aa S abv:=aa.s1 ai aj2 fy Tryz.func100 Bu
theorem aj4:aa S abw:=aa.s1 ai aj3 fy Tryz.func98 DK
theorem Hs:aa S zk:=aa.s1 ai aj4 fy Tryz.func73 xA
theorem aj5:fa S Si:=fa.step ai Hs fy Tryz.func94 (by kernel_rfl) (fun ps r h=>by
 unfold fj at h;split at h
 ·rw[eq_94];exact h
 ·cases h)
theorem aj6:fa S Sl:=fa.step ai Hs aj5 Tryz.func93 (by kernel_rfl) (fun ps r h=>by
 unfold dz at h;split at h
 ·rw[eq_93];exact h
 ·cases h)
theorem aj7:fa S Su:=fa.step ai Hs aj6 Tryz.func92 (by kernel_rfl) (fun ps r h=>by
 unfold fi at h;split at h
 ·rw[eq_92];exact h
 ·cases h)
theorem aj8:fa S Se:=fa.step ai Hs aj7 Tryz.func95 (by kernel_rfl) (fun ps r h=>by
 unfold dL at h;split at h
 ·rw[eq_95];exact h
 ·cases h)
theorem aj9:fa S Sj:=fa.step ai Hs aj8 Tryz.func90 (by kernel_rfl) (fun ps r h=>by
 unfold eF at h;split at h
 ·rw[eq_90];exact h
 ·cases h)
theorem aka:fa S Sn:=fa.step ai Hs aj9 Tryz.func91 (by kernel_rfl) (fun ps r h=>by
 unfold fK at h;split at h
 ·rw[eq_91];exact h
 ·cases h)
theorem J4:fa S Sk:=fa.step ai Hs aka Tryz.func89 (by kernel_rfl) (fun ps r h=>by
 unfold fh at h;split at h
 ·rw[eq_89];exact h
 ·cases h)
theorem akb:aa S abx:=aa.s1 ai Hs J4 Tryz.func117 zK
theorem akc:aa S aby:=aa.s3 ai akb J4 Tryz.func142 BE
theorem akd:aa S abz:=aa.s2 ai akc J4 Tryz.func144 wq
theorem ake:aa S abA:=aa.s1 ai akd J4 Tryz.func145 E6
theorem akf:aa S abB:=aa.s1 ai ake J4 Tryz.func74 Dc
theorem aft:aa S Nv:=aa.s2 ai akf J4 Tryz.func146 BF
theorem aC:fa S kP:=fa.step ai aft J4 Tryz.func203 (by kernel_rfl) (fun ps r h=>by
 unfold Ap at h;split at h
 ·rw[eq_203];exact h
 ·cases h)
theorem okX:aa S agj:=aa.step ai aft aC Tryz.func44 (by kernel_rfl) (fun ps r h=>h)
theorem akg:aa S abC:=aa.step ai okX aC Tryz.func49 (by kernel_rfl) (fun ps r h=>by
 unfold eh at h;split at h
 ·rw[eq_49];exact h
 ·cases h)
theorem akh:aa S abD:=aa.s2 ai akg aC Tryz.func150 jD
theorem aki:aa S abE:=aa.s2 ai akh aC Tryz.func80 zq
theorem akj:aa S abF:=aa.s2 ai aki aC Tryz.func46 sC
theorem akk:aa S abG:=aa.s1 ai akj aC Tryz.func27 Dd
theorem akl:aa S abH:=aa.s2 ai akk aC Tryz.func19 uM
theorem akm:aa S abI:=aa.s2 ai akl aC Tryz.func42 sH
theorem akn:aa S abJ:=aa.s2 ai akm aC Tryz.func72 sG
theorem ako:aa S abK:=aa.s2 ai akn aC Tryz.func41 u7
theorem akp:aa S abL:=aa.s2 ai ako aC Tryz.func17 BB
theorem akq:aa S abM:=aa.s2 ai akp aC Tryz.func35 xl
theorem akr:aa S abN:=aa.s3 ai akq aC Tryz.func63 zs
theorem aks:aa S abO:=aa.s1 ai akr aC Tryz.func36 zt
theorem akt:aa S abP:=aa.s2 ai aks aC Tryz.func195 yJ
theorem aku:aa S abQ:=aa.s3 ai akt aC Tryz.func196 De
theorem akv:aa S abR:=aa.s3 ai aku aC Tryz.func130 E7
theorem akw:aa S abS:=aa.s2 ai akv aC Tryz.func131 E8
theorem akx:aa S abT:=aa.s2 ai akw aC Tryz.func62 zr
theorem aky:aa S abU:=aa.s2 ai akx aC Tryz.func114 ve
theorem akz:aa S abV:=aa.s2 ai aky aC Tryz.func57 uK
theorem akA:aa S abW:=aa.s1 ai akz aC Tryz.func278 zL
theorem akB:aa S abX:=aa.s4 ai akA aC Tryz.func245 sK
theorem akC:aa S abY:=aa.s4 ai akB aC Tryz.func216 sL
theorem akD:aa S abZ:=aa.s2 ai akC aC Tryz.func217 DR
theorem akE:aa S ab0:=aa.s1 ai akD aC Tryz.func276 pG
theorem akF:aa S ab1:=aa.s3 ai akE aC Tryz.func277 vf
theorem akG:aa S ab2:=aa.s3 ai akF aC Tryz.func244 sM
theorem akH:aa S ab3:=aa.s2 ai akG aC Tryz.func209 mS
theorem akI:aa S ab4:=aa.s1 ai akH aC Tryz.func159 sN
theorem akJ:aa S ab5:=aa.s2 ai akI aC Tryz.func218 mf
theorem akK:aa S ab6:=aa.s2 ai akJ aC Tryz.func212 nI
theorem akL:aa S ab7:=aa.s2 ai akK aC Tryz.func248 DS
theorem akM:aa S ab8:=aa.s2 ai akL aC Tryz.func220 Gn
theorem akN:aa S ab9:=aa.s2 ai akM aC Tryz.func170 xD
theorem akO:aa S aca:=aa.s2 ai akN aC Tryz.func119 DT
theorem akP:aa S acb:=aa.s2 ai akO aC Tryz.func214 pH
theorem akQ:aa S acd:=aa.s2 ai akP aC Tryz.func215 qS
theorem akR:aa S ace:=aa.s3 ai akQ aC Tryz.func165 xE
theorem akS:aa S acf:=aa.s2 ai akR aC Tryz.func171 zM
theorem akT:aa S Sq:=aa.s4 ai akS aC Tryz.func120 Od
theorem akU:aa S Sv:=aa.step ai akT aC Tryz.func97 (by kernel_rfl) (fun ps r h=>by
 unfold iG at h;split at h
 ·rw[eq_97];exact h
 ·cases h)
theorem akV:aa S Sf:=aa.step ai akU aC Tryz.func115 (by kernel_rfl) (fun ps r h=>by
 unfold gW at h;split at h
 ·rw[eq_115];exact h
 ·cases h)
theorem akW:aa S acg:=aa.step ai akV aC Tryz.func99 (by kernel_rfl) (fun ps r h=>by
 unfold iH at h;split at h
 ·rw[eq_99];exact h
 ·cases h)
theorem akX:aa S Sr:=aa.s1 ai akW aC Tryz.func102 vg
theorem akY:aa S ach:=aa.step ai akX aC Tryz.func101 (by kernel_rfl) (fun ps r h=>by
 unfold iI at h;split at h
 ·rw[eq_101];exact h
 ·cases h)
theorem akZ:aa S Sg:=aa.s2 ai akY aC Tryz.func104 iq
theorem ak0:aa S aci:=aa.step ai akZ aC Tryz.func103 (by kernel_rfl) (fun ps r h=>by
 unfold iJ at h;split at h
 ·rw[eq_103];exact h
 ·cases h)
theorem ak1:aa S Ss:=aa.s4 ai ak0 aC Tryz.func106 DU
theorem ak2:aa S acj:=aa.step ai ak1 aC Tryz.func105 (by kernel_rfl) (fun ps r h=>by
 unfold iK at h;split at h
 ·rw[eq_105];exact h
 ·cases h)
theorem ak3:aa S ack:=aa.s1 ai ak2 aC Tryz.func161 sO
theorem ak4:aa S acm:=aa.s1 ai ak3 aC Tryz.func210 vh
theorem ak5:aa S acn:=aa.s2 ai ak4 aC Tryz.func160 vi
theorem ak6:aa S Sw:=aa.s2 ai ak5 aC Tryz.func108 sP
theorem ak7:aa S aco:=aa.step ai ak6 aC Tryz.func107 (by kernel_rfl) (fun ps r h=>by
 unfold iL at h;split at h
 ·rw[eq_107];exact h
 ·cases h)
theorem ak8:aa S acp:=aa.s2 ai ak7 aC Tryz.func163 sQ
theorem ak9:aa S acq:=aa.s2 ai ak8 aC Tryz.func213 xF
theorem ala:aa S Sx:=aa.s3 ai ak9 aC Tryz.func164 xG
theorem agA:aa S UT:=aa.step ai ala aC Tryz.func211 (by kernel_rfl) (fun ps r h=>by
 unfold gd at h;split at h
 ·rw[eq_211];exact h
 ·cases h)
theorem agB:aa S UU:=aa.s4 ai agA aC Tryz.func162 zN
theorem agC:aa S Ny:=aa.s3 ai agB aC Tryz.func110 xH
theorem agD:aa S UW:=aa.step ai agC aC Tryz.func109 (by kernel_rfl) (fun ps r h=>by
 unfold iM at h;split at h
 ·rw[eq_109];exact h
 ·cases h)
theorem agE:aa S Nu:=aa.s4 ai agD aC Tryz.func112 jj
theorem agF:aa S Nx:=aa.step ai agE aC Tryz.func111 (by kernel_rfl) (fun ps r h=>by
 unfold iN at h;split at h
 ·rw[eq_111];exact h
 ·cases h)
theorem agG:aa S UX:=aa.step ai agF aC Tryz.func113 (by kernel_rfl) (fun ps r h=>by
 unfold iO at h;split at h
 ·rw[eq_113];exact h
 ·cases h)
theorem agH:aa S UY:=aa.s1 ai agG aC Tryz.func54 sR
theorem agI:aa S UZ:=aa.s2 ai agH aC Tryz.func56 DV
theorem agJ:aa S U0:=aa.s3 ai agI aC Tryz.func118 Gp
theorem agK:aa S U1:=aa.s3 ai agJ aC Tryz.func55 wb
theorem agL:aa S U2:=aa.s3 ai agK aC Tryz.func30 xh
theorem agM:aa S U3:=aa.s1 ai agL aC Tryz.func53 BG
theorem agN:aa S U4:=aa.s1 ai agM aC Tryz.func52 Gq
theorem agO:aa S U5:=aa.s1 ai agN aC Tryz.func28 BH
theorem agP:aa S U6:=aa.s2 ai agO aC Tryz.func8 n9
theorem agQ:aa S U7:=aa.s2 ai agP aC Tryz.func33 Cx
theorem agR:aa S U8:=aa.s2 ai agQ aC Tryz.func188 BI
theorem agS:aa S U9:=aa.s2 ai agR aC Tryz.func127 BJ
theorem agT:aa S Va:=aa.s3 ai agS aC Tryz.func189 Br
theorem agU:aa S Vb:=aa.s2 ai agT aC Tryz.func128 xq
theorem agV:aa S Vc:=aa.s2 ai agU aC Tryz.func60 Bf
theorem agW:aa S Vd:=aa.s2 ai agV aC Tryz.func264 DW
theorem agX:aa S Ve:=aa.s1 ai agW aC Tryz.func263 qT
theorem agY:aa S Vf:=aa.s1 ai agX aC Tryz.func225 BK
theorem agZ:aa S Vg:=aa.s1 ai agY aC Tryz.func267 wu
theorem ag0:aa S Vh:=aa.s1 ai agZ aC Tryz.func266 BL
theorem ag1:aa S Vi:=aa.s1 ai ag0 aC Tryz.func227 BM
theorem ag2:aa S Vj:=aa.s2 ai ag1 aC Tryz.func228 j8
theorem ag4:aa S Vk:=aa.s1 ai ag2 aC Tryz.func197 DX
theorem ag5:aa S Vl:=aa.s1 ai ag4 aC Tryz.func265 DY
theorem ag6:aa S Vm:=aa.s1 ai ag5 aC Tryz.func226 BN
theorem ag7:aa S Vn:=aa.s2 ai ag6 aC Tryz.func290 DZ
theorem ag8:aa S Vo:=aa.s2 ai ag7 aC Tryz.func291 BO
theorem ag9:aa S Vp:=aa.s5 ai ag8 aC Tryz.func268 Gs
theorem aha:aa S Vq:=aa.s4 ai ag9 aC Tryz.func229 BP
theorem ahb:aa S Vr:=aa.s1 ai aha aC Tryz.func270 BQ
theorem ahc:aa S Vs:=aa.s3 ai ahb aC Tryz.func236 BR
theorem ahd:aa S Vt:=aa.s2 ai ahc aC Tryz.func183 wv
theorem ahe:aa S Vu:=aa.s1 ai ahd aC Tryz.func235 tL
theorem ahf:aa S Vv:=aa.s2 ai ahe aC Tryz.func269 D2
theorem ahg:aa S Vw:=aa.s2 ai ahf aC Tryz.func230 BS
theorem ahh:aa S Vx:=aa.s2 ai ahg aC Tryz.func294 Gt
theorem ahi:aa S Vy:=aa.s2 ai ahh aC Tryz.func185 D3
theorem ahj:aa S Vz:=aa.s2 ai ahi aC Tryz.func295 BT
theorem ahk:aa S VA:=aa.s2 ai ahj aC Tryz.func292 J5
theorem ahl:aa S VB:=aa.s2 ai ahk aC Tryz.func293 vj
theorem ahm:aa S VC:=aa.s4 ai ahl aC Tryz.func271 Gu
theorem ahn:aa S VD:=aa.s3 ai ahm aC Tryz.func231 BU
theorem aho:aa S VE:=aa.s3 ai ahn aC Tryz.func187 BV
theorem ahp:aa S VF:=aa.s5 ai aho aC Tryz.func272 sS
theorem ahq:aa S VG:=aa.s4 ai ahp aC Tryz.func232 j9
theorem ahr:aa S VH:=aa.s3 ai ahq aC Tryz.func273 zO
theorem ahs:aa S VI:=aa.s1 ai ahr aC Tryz.func274 BW
theorem aht:aa S VJ:=aa.s1 ai ahs aC Tryz.func233 BX
theorem ahu:aa S VK:=aa.s2 ai aht aC Tryz.func178 D4
theorem ahv:aa S VL:=aa.s1 ai ahu aC Tryz.func122 BZ
theorem ahw:aa S VM:=aa.s3 ai ahv aC Tryz.func186 D5
theorem ahx:aa S VN:=aa.s3 ai ahw aC Tryz.func126 D6
theorem ahy:aa S VO:=aa.s1 ai ahx aC Tryz.func275 xI
theorem ahz:aa S VP:=aa.s4 ai ahy aC Tryz.func234 zP
theorem ahA:aa S VQ:=aa.s4 ai ahz aC Tryz.func179 zQ
theorem ahB:aa S VR:=aa.s2 ai ahA aC Tryz.func182 sT
theorem ahC:aa S VS:=aa.s2 ai ahB aC Tryz.func180 vk
theorem ahD:aa S VT:=aa.s5 ai ahC aC Tryz.func181 Gv
theorem ahE:aa S VU:=aa.s2 ai ahD aC Tryz.func124 Gw
theorem ahF:aa S VV:=aa.s2 ai ahE aC Tryz.func237 sU
theorem ahG:aa S VW:=aa.s2 ai ahF aC Tryz.func184 xJ
theorem ahH:aa S VX:=aa.s1 ai ahG aC Tryz.func123 vl
theorem ahI:aa S VY:=aa.s2 ai ahH aC Tryz.func125 B0
theorem ahJ:aa S VZ:=aa.s2 ai ahI aC Tryz.func59 B1
theorem ahK:aa S V0:=aa.s3 ai ahJ aC Tryz.func58 zR
theorem ahL:aa S V1:=aa.s3 ai ahK aC Tryz.func32 Bg
theorem ahM:aa S NB:=aa.s5 ai ahL aC Tryz.func11 Cy
theorem ahN:aa S Nz:=aa.step ai ahM aC Tryz.func9 (by kernel_rfl) (fun ps r h=>by
 unfold bW at h;split at h
 ·rw[eq_9];exact h
 ·cases h)
theorem ahO:aa S NA:=aa.step ai ahN aC Tryz.func44 (by kernel_rfl) (fun ps r h=>by
 unfold jW at h;split at h
 ·rw[eq_44];exact h
 ·cases h)
theorem ahP:aa S V2:=aa.step ai ahO aC Tryz.func61 (by kernel_rfl) (fun ps r h=>by
 unfold rT at h;split at h
 ·rw[eq_61];exact h
 ·cases h)
theorem ahQ:aa S V3:=aa.s1 ai ahP aC Tryz.func34 xm
theorem ahR:aa S V4:=aa.s2 ai ahQ aC Tryz.func45 nr
theorem ahS:aa S V5:=aa.s1 ai ahR aC Tryz.func18 pd
theorem ahT:aa S V6:=aa.s1 ai ahS aC Tryz.func20 pe
theorem ahU:aa S V7:=aa.s1 ai ahT aC Tryz.func21 qK
theorem ahV:aa S V8:=aa.s1 ai ahU aC Tryz.func23 mb
theorem ahW:aa S V9:=aa.s2 ai ahV aC Tryz.func12 DG
theorem ahX:aa S Wa:=aa.s1 ai ahW aC Tryz.func3 pf
end Go.Proofs.YtoaknfoobjnjgaaGreat
