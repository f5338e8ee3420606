import Derived.Test.YtoaknfoobjnjgaaGreatEq1
import Derived.Test.YtoaknfoobjnjgaaGreatEqX
import Derived.Test.YtoaknfoobjnjgaaGreatLays
import Derived.Test.YtoaknfoobjnjgaaGreatAbSortKOk
set_option linter.all false
namespace Go.Proofs.YtoaknfoobjnjgaaGreat
open Go.Ab
set_option maxRecDepth 1000000
theorem MI:mY S0:=⟨by kernel_rfl,(fun g h hh=>by cases hh),by kernel_rfl⟩
theorem ais:ab S0 aeK:=ab.nil S0
theorem RU:ff S0 El:=ff.nil S0
theorem ait:ab S0 aeL:=ab.s2 MI ais RU Tryz.func177 rS
theorem aiu:ab S0 aeM:=ab.s1 MI ait RU Tryz.func176 Cf
theorem aeN:ab S0 ZP:=ab.s2 MI aiu RU Tryz.func175 nC
theorem aga(g:Nat)(M:List PV→Option PV)(h:clo g=some M):yR S.P S.aF g M:=by
 unfold clo at h;cases e:Nat.beq g 175 with
 |true=>rw[e]at h;have:=K5 e;subst this;cases h;exact aeN (175,cD) (zg (by kernel_rfl))
 |false=>rw[e]at h;cases h
theorem aw:mY S:=⟨by kernel_rfl,(fun g h hh R args f m k r hr=>by
 have hh:(bif Nat.beq g 174 then some (Av 4 clo)else none)=some h:=hh;cases e:Nat.beq g 174 with
 |true=>rw[e]at hh;have:=K5 e;subst this;cases hh;exact LU adb rfl ⟨Tryz.f174,_,Tryz.func174,rfl,by kernel_rfl⟩ Tryz.isAgg110 Tryz.sizeOf110 aga hr
 |false=>rw[e]at hh;cases hh),by kernel_rfl⟩
theorem al6:ab S ZP:=fun x hx=>aeN x hx
theorem dJ:ff S El:=ff.nil S
theorem al7:ab S aeO:=ab.s2 aw al6 dJ Tryz.func81 nd
theorem al8:ab S aeP:=ab.s1 aw al7 dJ Tryz.func117 ud
theorem al9:ab S aeQ:=ab.s1 aw al8 dJ Tryz.func143 zp
theorem ama:ab S aeR:=ab.s5 aw al9 dJ Tryz.func208 Ij
theorem amb:ab S aeS:=ab.s4 aw ama dJ Tryz.func158 B8
theorem amc:ab S aeT:=ab.s3 aw amb dJ Tryz.func142 ue
theorem aiv:ab S ZQ:=ab.s2 aw amc dJ Tryz.func144 pD
theorem aiw:ab S ZR:=ab.s1 aw aiv dJ Tryz.func145 xR
theorem aix:ab S ZS:=ab.s1 aw aiw dJ Tryz.func74 qT
theorem aiy:ab S ZT:=ab.s3 aw aix dJ Tryz.func66 l6
theorem aiz:ab S ZU:=ab.s3 aw aiy dJ Tryz.func82 nf
theorem aiA:ab S ZV:=ab.s3 aw aiz dJ Tryz.func47 ng
theorem aiB:ab S ZW:=ab.s2 aw aiA dJ Tryz.func79 xD
theorem aiC:ab S ZX:=ab.s2 aw aiB dJ Tryz.func77 nh
theorem aiD:ab S ZY:=ab.s1 aw aiC dJ Tryz.func242 zP
theorem aiE:ab S ZZ:=ab.s1 aw aiD dJ Tryz.func241 vQ
theorem aiF:ab S Z0:=ab.s3 aw aiE dJ Tryz.func201 vL
theorem aiG:ab S Z1:=ab.s3 aw aiF dJ Tryz.func138 Iw
theorem aiH:ab S Z2:=ab.s2 aw aiG dJ Tryz.func200 tS
theorem aiI:ab S Rh:=ab.s1 aw aiH dJ Tryz.func140 np
theorem aiJ:ab S Z3:=ab.step aw aiI dJ Tryz.func280 (by kernel_rfl) (fun ps r h=>by
 unfold dL at h;split at h
 ·rw[eq_280];exact h
 ·cases h)
theorem aiK:ab S Z4:=ab.s3 aw aiJ dJ Tryz.func249 tZ
theorem aiL:ab S Rc:=ab.s2 aw aiK dJ Tryz.func282 vO
theorem aiM:ab S Z5:=ab.step aw aiL dJ Tryz.func296 (by kernel_rfl) (fun ps r h=>by
 unfold aR at h;split at h
 ·rw[eq_296];exact h
 ·cases h)
theorem aiN:ab S Z6:=ab.s3 aw aiM dJ Tryz.func252 rQ
theorem aiO:ab S Z7:=ab.s1 aw aiN dJ Tryz.func251 qt
theorem aiP:ab S Z8:=ab.s2 aw aiO dJ Tryz.func250 nA
theorem aiQ:ab S Z9:=ab.s2 aw aiP dJ Tryz.func221 xP
theorem aiR:ab S aaa:=ab.s3 aw aiQ dJ Tryz.func172 nB
theorem aiS:ab S aab:=ab.s2 aw aiR dJ Tryz.func121 qu
theorem aiT:ab S aac:=ab.s2 aw aiS dJ Tryz.func166 tT
theorem aiU:ab S aad:=ab.s2 aw aiT dJ Tryz.func202 pd
theorem aiV:ab S aae:=ab.s1 aw aiU dJ Tryz.func141 nm
theorem aiW:ab S aaf:=ab.s1 aw aiV dJ Tryz.func139 pf
theorem aiX:ab S aag:=ab.s1 aw aiW dJ Tryz.func137 vM
theorem aiY:ab S aah:=ab.s3 aw aiX dJ Tryz.func167 tP
theorem aiZ:ab S aai:=ab.s1 aw aiY dJ Tryz.func116 vI
theorem ai0:ab S aaj:=ab.s1 aw aiZ dJ Tryz.func157 zs
theorem ai1:ab S aak:=ab.s1 aw ai0 dJ Tryz.func100 zr
theorem ai2:ab S aal:=ab.s1 aw ai1 dJ Tryz.func98 B7
theorem FA:ab S xC:=ab.s1 aw ai2 dJ Tryz.func73 vN
theorem ai3:ff S Q8:=ff.step aw FA dJ Tryz.func94 (by kernel_rfl) (fun ps r h=>by
 unfold dU at h;split at h
 ·rw[eq_94];exact h
 ·cases h)
theorem ai4:ff S Re:=ff.step aw FA ai3 Tryz.func93 (by kernel_rfl) (fun ps r h=>by
 unfold cN at h;split at h
 ·rw[eq_93];exact h
 ·cases h)
theorem ai5:ff S Ri:=ff.step aw FA ai4 Tryz.func92 (by kernel_rfl) (fun ps r h=>by
 unfold dS at h;split at h
 ·rw[eq_92];exact h
 ·cases h)
theorem ai6:ff S Q6:=ff.step aw FA ai5 Tryz.func95 (by kernel_rfl) (fun ps r h=>by
 unfold cW at h;split at h
 ·rw[eq_95];exact h
 ·cases h)
theorem ai7:ff S Q9:=ff.step aw FA ai6 Tryz.func90 (by kernel_rfl) (fun ps r h=>by
 unfold dA at h;split at h
 ·rw[eq_90];exact h
 ·cases h)
theorem ai8:ff S Rf:=ff.step aw FA ai7 Tryz.func91 (by kernel_rfl) (fun ps r h=>by
 unfold eo at h;split at h
 ·rw[eq_91];exact h
 ·cases h)
theorem aeU:ff S Q7:=ff.step aw FA ai8 Tryz.func89 (by kernel_rfl) (fun ps r h=>by
 unfold dR at h;split at h
 ·rw[eq_89];exact h
 ·cases h)
theorem aeV:ab S LV:=ab.s2 aw FA aeU Tryz.func146 pE
theorem bn:ff S oF:=ff.step aw aeV aeU Tryz.func203 (by kernel_rfl) (fun ps r h=>by
 unfold gF at h;split at h
 ·rw[eq_203];exact h
 ·cases h)
theorem ai9:ab S aam:=ab.step aw aeV bn Tryz.func206 (by kernel_rfl) (fun ps r h=>by
 unfold ey at h;split at h
 ·rw[eq_206];exact h
 ·cases h)
theorem aja:ab S aan:=ab.s2 aw ai9 bn Tryz.func150 jI
theorem ajb:ab S aao:=ab.s2 aw aja bn Tryz.func80 xE
theorem ajc:ab S aap:=ab.s2 aw ajb bn Tryz.func46 rL
theorem ajd:ab S aaq:=ab.s2 aw ajc bn Tryz.func44 zQ
theorem aje:ab S aar:=ab.s1 aw ajd bn Tryz.func49 vB
theorem ajf:ab S aas:=ab.s2 aw aje bn Tryz.func42 rP
theorem ajg:ab S aat:=ab.s2 aw ajf bn Tryz.func72 rO
theorem ajh:ab S aau:=ab.s2 aw ajg bn Tryz.func41 tX
theorem aji:ab S aav:=ab.s2 aw ajh bn Tryz.func17 zJ
theorem ajj:ab S aaw:=ab.s4 aw aji bn Tryz.func153 zx
theorem ajk:ab S aax:=ab.s1 aw ajj bn Tryz.func151 vF
theorem ajl:ab S aay:=ab.s3 aw ajk bn Tryz.func152 Ic
theorem ajm:ab S aaz:=ab.s1 aw ajl bn Tryz.func88 zt
theorem ajn:ab S aaA:=ab.s4 aw ajm bn Tryz.func154 zC
theorem ajo:ab S aaB:=ab.s2 aw ajn bn Tryz.func86 Cc
theorem ajp:ab S aaC:=ab.s3 aw ajo bn Tryz.func207 ub
theorem ajq:ab S aaD:=ab.s2 aw ajp bn Tryz.func155 xQ
theorem ajr:ab S aaE:=ab.s1 aw ajq bn Tryz.func87 zy
theorem ajs:ab S aaF:=ab.s1 aw ajr bn Tryz.func84 xK
theorem ajt:ab S aaG:=ab.s2 aw ajs bn Tryz.func85 Et
theorem aju:ab S aaH:=ab.s1 aw ajt bn Tryz.func83 zq
theorem ajv:ab S aaI:=ab.s1 aw aju bn Tryz.func48 zF
theorem ajw:ab S aaJ:=ab.s1 aw ajv bn Tryz.func22 zH
theorem ajx:ab S aaK:=ab.s1 aw ajw bn Tryz.func136 tG
theorem ajy:ab S aaL:=ab.s2 aw ajx bn Tryz.func69 ni
theorem ajz:ab S aaM:=ab.s2 aw ajy bn Tryz.func114 uf
theorem ajA:ab S aaN:=ab.s2 aw ajz bn Tryz.func57 tH
theorem ajB:ab S aaO:=ab.s1 aw ajA bn Tryz.func278 xS
theorem ajC:ab S aaP:=ab.s4 aw ajB bn Tryz.func245 rT
theorem ajD:ab S aaQ:=ab.s4 aw ajC bn Tryz.func216 rU
theorem ajE:ab S aaR:=ab.s2 aw ajD bn Tryz.func217 Cg
theorem ajF:ab S aaS:=ab.s1 aw ajE bn Tryz.func276 pF
theorem ajG:ab S aaT:=ab.s3 aw ajF bn Tryz.func277 ug
theorem ajH:ab S aaU:=ab.s3 aw ajG bn Tryz.func244 rV
theorem ajI:ab S aaV:=ab.s2 aw ajH bn Tryz.func209 mM
theorem ajJ:ab S aaW:=ab.s1 aw ajI bn Tryz.func159 rW
theorem ajK:ab S aaX:=ab.s2 aw ajJ bn Tryz.func218 l9
theorem ajL:ab S aaY:=ab.s2 aw ajK bn Tryz.func212 nD
theorem ajM:ab S aaZ:=ab.s2 aw ajL bn Tryz.func248 Ch
theorem ajN:ab S aa0:=ab.s2 aw ajM bn Tryz.func220 EE
theorem ajO:ab S aa1:=ab.s2 aw ajN bn Tryz.func170 vR
theorem ajP:ab S aa2:=ab.s2 aw ajO bn Tryz.func119 Ci
theorem ajQ:ab S aa3:=ab.s2 aw ajP bn Tryz.func214 pG
theorem ajR:ab S aa4:=ab.s2 aw ajQ bn Tryz.func215 qv
theorem ajS:ab S aa5:=ab.s3 aw ajR bn Tryz.func165 vS
theorem ajT:ab S aa6:=ab.s2 aw ajS bn Tryz.func171 xT
theorem ajU:ab S Ra:=ab.s4 aw ajT bn Tryz.func120 MJ
theorem ajV:ab S Rg:=ab.step aw ajU bn Tryz.func97 (by kernel_rfl) (fun ps r h=>by
 unfold iE at h;split at h
 ·rw[eq_97];exact h
 ·cases h)
theorem ajW:ab S Rj:=ab.step aw ajV bn Tryz.func115 (by kernel_rfl) (fun ps r h=>by
 unfold gY at h;split at h
 ·rw[eq_115];exact h
 ·cases h)
theorem ajX:ab S aa7:=ab.step aw ajW bn Tryz.func99 (by kernel_rfl) (fun ps r h=>by
 unfold iF at h;split at h
 ·rw[eq_99];exact h
 ·cases h)
theorem ajY:ab S Rb:=ab.s1 aw ajX bn Tryz.func102 uh
theorem ajZ:ab S aa8:=ab.step aw ajY bn Tryz.func101 (by kernel_rfl) (fun ps r h=>by
 unfold iG at h;split at h
 ·rw[eq_101];exact h
 ·cases h)
theorem aj0:ab S Rk:=ab.s2 aw ajZ bn Tryz.func104 iq
theorem agb:ab S TO:=ab.step aw aj0 bn Tryz.func103 (by kernel_rfl) (fun ps r h=>by
 unfold iH at h;split at h
 ·rw[eq_103];exact h
 ·cases h)
theorem agc:ab S LX:=ab.s4 aw agb bn Tryz.func106 Cj
theorem agd:ab S TP:=ab.step aw agc bn Tryz.func105 (by kernel_rfl) (fun ps r h=>by
 unfold iI at h;split at h
 ·rw[eq_105];exact h
 ·cases h)
theorem age:ab S TQ:=ab.s1 aw agd bn Tryz.func161 rX
theorem agf:ab S TR:=ab.s1 aw age bn Tryz.func210 ui
theorem agh:ab S TS:=ab.s2 aw agf bn Tryz.func160 uj
theorem agi:ab S LZ:=ab.s2 aw agh bn Tryz.func108 rY
theorem agj:ab S TT:=ab.step aw agi bn Tryz.func107 (by kernel_rfl) (fun ps r h=>by
 unfold iJ at h;split at h
 ·rw[eq_107];exact h
 ·cases h)
theorem agk:ab S TU:=ab.s2 aw agj bn Tryz.func163 rZ
theorem agl:ab S TV:=ab.s2 aw agk bn Tryz.func213 vT
theorem agm:ab S L2:=ab.s3 aw agl bn Tryz.func164 vU
theorem agn:ab S TW:=ab.step aw agm bn Tryz.func211 (by kernel_rfl) (fun ps r h=>by
 unfold fW at h;split at h
 ·rw[eq_211];exact h
 ·cases h)
theorem ago:ab S TX:=ab.s4 aw agn bn Tryz.func162 xU
theorem agp:ab S LY:=ab.s3 aw ago bn Tryz.func110 vV
theorem agq:ab S TY:=ab.step aw agp bn Tryz.func109 (by kernel_rfl) (fun ps r h=>by
 unfold iK at h;split at h
 ·rw[eq_109];exact h
 ·cases h)
theorem agr:ab S L3:=ab.s4 aw agq bn Tryz.func112 jj
theorem ags:ab S LW:=ab.step aw agr bn Tryz.func111 (by kernel_rfl) (fun ps r h=>by
 unfold iL at h;split at h
 ·rw[eq_111];exact h
 ·cases h)
theorem agt:ab S TZ:=ab.step aw ags bn Tryz.func113 (by kernel_rfl) (fun ps r h=>by
 unfold iM at h;split at h
 ·rw[eq_113];exact h
 ·cases h)
theorem agu:ab S T2:=ab.s1 aw agt bn Tryz.func54 sd
theorem agv:ab S T3:=ab.s2 aw agu bn Tryz.func56 Ck
theorem agw:ab S T4:=ab.s3 aw agv bn Tryz.func118 EF
theorem agx:ab S T5:=ab.s3 aw agw bn Tryz.func55 uU
theorem agy:ab S T6:=ab.s3 aw agx bn Tryz.func30 vD
theorem agz:ab S T7:=ab.s1 aw agy bn Tryz.func53 zR
theorem agA:ab S T8:=ab.s1 aw agz bn Tryz.func52 EG
theorem agB:ab S T9:=ab.s1 aw agA bn Tryz.func28 zS
theorem agC:ab S L4:=ab.s2 aw agB bn Tryz.func8 uT
theorem agD:ab S Ua:=ab.step aw agC bn Tryz.func9 (by kernel_rfl) (fun ps r h=>by
 unfold cB at h;split at h
 ·rw[eq_9];exact h
 ·cases h)
theorem agE:ab S Ub:=ab.s2 aw agD bn Tryz.func6 oT
end Go.Proofs.YtoaknfoobjnjgaaGreat
