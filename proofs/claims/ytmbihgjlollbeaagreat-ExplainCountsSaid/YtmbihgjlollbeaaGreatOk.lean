import Derived.Test.YtmbihgjlollbeaaGreatEq1
import Derived.Test.YtmbihgjlollbeaaGreatLays
import Derived.Test.YtmbihgjlollbeaaGreatAbSortKOk
import Derived.Test.YtmbihgjlollbeaaGreatExt
namespace Go.Proofs.YtmbihgjlollbeaaGreat
open Go.Ab
set_option maxRecDepth 1000000
theorem JE:mw S0:=⟨by kernel_rfl,(fun g h hh=>by cases hh),by kernel_rfl⟩
theorem aeX:ab S0 aa8:=ab.nil S0
theorem OC:nm S0 je:=nm.nil S0
theorem aeY:ab S0 aa9:=fun x hx=>(aih.1 hx).elim (fun e=>e▸ZB) (fun h=>aeX x h)
theorem aeZ:ab S0 aba:=ab.s2 JE aeY OC Tryz.func238 qg
theorem ae0:ab S0 abb:=ab.s1 JE aeZ OC Tryz.func237 Am
theorem abc:ab S0 Wm:=ab.s2 JE ae0 OC Tryz.func236 mF
theorem acH(g:Nat)(M:List PV→Option PV)(h:Zj g=some M):vc S.P S.aG g M:=by
 unfold Zj at h;cases e:Nat.beq g 236 with
 |true=>rw[e]at h;have:=AI e;subst this;cases h;exact abc (236,cd) (xm (by kernel_rfl))
 |false=>rw[e]at h;cases h
theorem aj:mw S:=⟨by kernel_rfl,(fun g h hh R args f m k r hr=>by
 have hh:(bif Nat.beq g 235 then some (yI 4 Zj)else none)=some h:=hh;cases e:Nat.beq g 235 with
 |true=>rw[e]at hh;have:=AI e;subst this;cases hh;exact I1 ZT rfl ⟨Tryz.f235,_,Tryz.func235,rfl,by kernel_rfl⟩ Tryz.isAgg150 Tryz.sizeOf150 acH hr
 |false=>rw[e]at hh;cases hh),by kernel_rfl⟩
theorem ah7:ab S Wm:=fun x hx=>abc x hx
theorem az:nm S je:=nm.nil S
theorem ah8:ab S abd:=ab.s1 aj ah7 az Tryz.func107 vI
theorem ah9:ab S abe:=ab.s1 aj ah8 az Tryz.func130 vJ
theorem aia:ab S abf:=ab.s4 aj ah9 az Tryz.func78 qi
theorem aib:ab S abg:=ab.s4 aj aia az Tryz.func74 qj
theorem aic:ab S abh:=ab.s1 aj aib az Tryz.func183 n9
theorem ae1:ab S Wn:=ab.s3 aj aic az Tryz.func184 su
theorem ae2:ab S Wo:=ab.s3 aj ae1 az Tryz.func129 qk
theorem ae3:ab S Wp:=ab.s2 aj ae2 az Tryz.func77 me
theorem ae4:ab S Wq:=ab.s1 aj ae3 az Tryz.func109 qm
theorem ae5:ab S Wr:=ab.s2 aj ae4 az Tryz.func76 lK
theorem ae6:ab S Ws:=ab.s2 aj ae5 az Tryz.func75 mG
theorem ae7:ab S Wt:=ab.s3 aj ae6 az Tryz.func29 pS
theorem ae8:ab S Wu:=ab.s2 aj ae7 az Tryz.func25 lG
theorem ae9:ab S Wv:=ab.s3 aj ae8 az Tryz.func79 lF
theorem afa:ab S Ww:=ab.s1 aj ae9 az Tryz.func26 tD
theorem afb:ab S Wx:=ab.s4 aj afa az Tryz.func131 qA
theorem afc:ab S Wy:=ab.s2 aj afb az Tryz.func73 qB
theorem afd:ab S Wz:=ab.s3 aj afc az Tryz.func118 pW
theorem afe:ab S WA:=ab.s3 aj afd az Tryz.func156 tT
theorem aff:ab S WB:=ab.s3 aj afe az Tryz.func97 F7
theorem afg:ab S WC:=ab.s2 aj aff az Tryz.func155 sl
theorem afh:ab S NW:=ab.s1 aj afg az Tryz.func99 mB
theorem afi:ab S WD:=ab.step aj afh az Tryz.func260 (by kernel_rfl) (fun ps r h=>by
 unfold du at h;split at h
 ·rw[eq_260];exact h
 ·cases h)
theorem afj:ab S WE:=ab.s3 aj afi az Tryz.func246 sq
theorem afk:ab S NS:=ab.s2 aj afj az Tryz.func262 tW
theorem afl:ab S WG:=ab.step aj afk az Tryz.func270 (by kernel_rfl) (fun ps r h=>by
 unfold aK at h;split at h
 ·rw[eq_270];exact h
 ·cases h)
theorem afm:ab S WH:=ab.s3 aj afl az Tryz.func249 qe
theorem afn:ab S WI:=ab.s1 aj afm az Tryz.func248 oR
theorem afo:ab S WJ:=ab.s2 aj afn az Tryz.func247 mD
theorem afp:ab S WK:=ab.s2 aj afo az Tryz.func242 vH
theorem afq:ab S WL:=ab.s3 aj afp az Tryz.func233 mE
theorem afr:ab S WM:=ab.s2 aj afq az Tryz.func204 oS
theorem afs:ab S WN:=ab.s2 aj afr az Tryz.func116 sm
theorem aft:ab S WO:=ab.s2 aj afs az Tryz.func157 nR
theorem afu:ab S WQ:=ab.s1 aj aft az Tryz.func100 mA
theorem afv:ab S WR:=ab.s5 aj afu az Tryz.func164 FX
theorem afw:ab S WS:=ab.s4 aj afv az Tryz.func108 Ae
theorem afx:ab S WT:=ab.s1 aj afw az Tryz.func105 xE
theorem afy:ab S WU:=ab.s1 aj afx az Tryz.func98 nT
theorem afz:ab S WV:=ab.s1 aj afy az Tryz.func96 tU
theorem afA:ab S WW:=ab.s3 aj afz az Tryz.func117 sk
theorem afB:ab S WX:=ab.s1 aj afA az Tryz.func66 tQ
theorem afC:ab S WY:=ab.s1 aj afB az Tryz.func106 xH
theorem afD:ab S WZ:=ab.s1 aj afC az Tryz.func50 xG
theorem afE:ab S W0:=ab.s1 aj afD az Tryz.func48 Ad
theorem afF:ab S W2:=ab.s1 aj afE az Tryz.func38 tV
theorem afG:ab S W3:=ab.s2 aj afF az Tryz.func67 gQ
theorem afH:ab S W4:=ab.s2 aj afG az Tryz.func126 xB
theorem afI:ab S W5:=ab.s3 aj afH az Tryz.func181 oO
theorem afJ:ab S W6:=ab.s3 aj afI az Tryz.func225 xy
theorem afK:ab S W7:=ab.s4 aj afJ az Tryz.func180 oN
theorem afL:ab S W8:=ab.s2 aj afK az Tryz.func222 oM
theorem afM:ab S W9:=ab.s2 aj afL az Tryz.func224 nI
theorem afN:ab S Xa:=ab.s3 aj afM az Tryz.func220 tN
theorem afO:ab S Xb:=ab.s2 aj afN az Tryz.func179 sf
theorem afP:ab S Xc:=ab.s2 aj afO az Tryz.func125 xD
theorem afQ:ab S Xd:=ab.s2 aj afP az Tryz.func124 vA
theorem afR:ab S Xe:=ab.s2 aj afQ az Tryz.func71 vC
theorem afS:ab S Xf:=ab.s1 aj afR az Tryz.func177 Ac
theorem afT:ab S Xg:=ab.s1 aj afS az Tryz.func122 Cn
theorem afU:ab S Xh:=ab.s2 aj afT az Tryz.func123 se
theorem afV:ab S Xi:=ab.s2 aj afU az Tryz.func176 qd
theorem afW:ab S Xj:=ab.s2 aj afV az Tryz.func121 tM
theorem afX:ab S Xk:=ab.s2 aj afW az Tryz.func70 pk
theorem afY:ab S Xl:=ab.s1 aj afX az Tryz.func72 vz
theorem afZ:ab S Xm:=ab.s3 aj afY az Tryz.func24 qO
theorem af0:ab S Xn:=ab.s3 aj afZ az Tryz.func69 qP
theorem af1:ab S Xo:=ab.s1 aj af0 az Tryz.func215 kx
theorem af2:ab S Xp:=ab.s1 aj af1 az Tryz.func216 gh
theorem af3:ab S Xq:=ab.s2 aj af2 az Tryz.func217 iF
theorem af4:ab S Xr:=ab.s1 aj af3 az Tryz.func174 iG
theorem af5:ab S Xs:=ab.s1 aj af4 az Tryz.func172 fv
theorem af6:ab S Xt:=ab.s1 aj af5 az Tryz.func173 jJ
theorem af7:ab S Xu:=ab.s1 aj af6 az Tryz.func218 iE
theorem af8:ab S Xv:=ab.s2 aj af7 az Tryz.func219 jH
theorem af9:ab S Xw:=ab.s1 aj af8 az Tryz.func175 jg
theorem aga:ab S Xx:=ab.s1 aj af9 az Tryz.func212 gK
theorem agb:ab S Xy:=ab.s1 aj aga az Tryz.func211 fq
theorem agc:ab S Xz:=ab.s1 aj agb az Tryz.func240 jf
theorem agd:ab S XA:=ab.s1 aj agc az Tryz.func214 gd
theorem age:ab S XB:=ab.s1 aj agd az Tryz.func213 jI
theorem agf:ab S XC:=ab.s1 aj age az Tryz.func171 ky
theorem agh:ab S XD:=ab.s1 aj agf az Tryz.func119 jh
theorem agi:ab S XE:=ab.s3 aj agh az Tryz.func68 tL
theorem agj:ab S NT:=ab.s3 aj agi az Tryz.func23 nu
theorem agk:ab S NX:=ab.step aj agj az Tryz.func47 (by kernel_rfl) (fun ps r h=>by
 unfold gX at h;split at h
 ·rw[eq_47];exact h
 ·cases h)
theorem agl:ab S NY:=ab.step aj agk az Tryz.func65 (by kernel_rfl) (fun ps r h=>by
 unfold gA at h;split at h
 ·rw[eq_65];exact h
 ·cases h)
theorem agm:ab S XF:=ab.step aj agl az Tryz.func49 (by kernel_rfl) (fun ps r h=>by
 unfold gY at h;split at h
 ·rw[eq_49];exact h
 ·cases h)
theorem agn:ab S NU:=ab.s1 aj agm az Tryz.func52 sw
theorem ago:ab S XG:=ab.step aj agn az Tryz.func51 (by kernel_rfl) (fun ps r h=>by
 unfold gZ at h;split at h
 ·rw[eq_51];exact h
 ·cases h)
theorem agp:ab S NZ:=ab.s2 aj ago az Tryz.func54 gM
theorem agq:ab S XH:=ab.step aj agp az Tryz.func53 (by kernel_rfl) (fun ps r h=>by
 unfold hU at h;split at h
 ·rw[eq_53];exact h
 ·cases h)
theorem agr:ab S NV:=ab.s4 aj agq az Tryz.func56 An
theorem ags:ab S XI:=ab.step aj agr az Tryz.func55 (by kernel_rfl) (fun ps r h=>by
 unfold hZ at h;split at h
 ·rw[eq_55];exact h
 ·cases h)
theorem agt:ab S XJ:=ab.s1 aj ags az Tryz.func111 qn
theorem acI:ab S Qp:=ab.s1 aj agt az Tryz.func165 sx
theorem acJ:ab S Qq:=ab.s2 aj acI az Tryz.func110 sy
theorem acK:ab S Jc:=ab.s2 aj acJ az Tryz.func58 qo
theorem acL:ab S Qr:=ab.step aj acK az Tryz.func57 (by kernel_rfl) (fun ps r h=>by
 unfold ic at h;split at h
 ·rw[eq_57];exact h
 ·cases h)
theorem acM:ab S Qs:=ab.s2 aj acL az Tryz.func113 qp
theorem acN:ab S Qt:=ab.s2 aj acM az Tryz.func210 vK
theorem acO:ab S Qu:=ab.s2 aj acN az Tryz.func167 tX
theorem acP:ab S Je:=ab.s3 aj acO az Tryz.func114 tY
theorem acQ:ab S Qv:=ab.step aj acP az Tryz.func166 (by kernel_rfl) (fun ps r h=>by
 unfold fK at h;split at h
 ·rw[eq_166];exact h
 ·cases h)
theorem acR:ab S Qw:=ab.s4 aj acQ az Tryz.func112 vL
theorem acS:ab S Jd:=ab.s3 aj acR az Tryz.func60 tZ
theorem acT:ab S Qx:=ab.step aj acS az Tryz.func59 (by kernel_rfl) (fun ps r h=>by
 unfold ig at h;split at h
 ·rw[eq_59];exact h
 ·cases h)
theorem acU:ab S Qy:=ab.s2 aj acT az Tryz.func168 oa
theorem acV:ab S Qz:=ab.s2 aj acU az Tryz.func169 oT
theorem acW:ab S QA:=ab.s3 aj acV az Tryz.func115 ua
theorem acX:ab S Jf:=ab.s4 aj acW az Tryz.func62 iK
theorem acY:ab S QB:=ab.step aj acX az Tryz.func61 (by kernel_rfl) (fun ps r h=>by
 unfold ij at h;split at h
 ·rw[eq_61];exact h
 ·cases h)
theorem acZ:ab S Ja:=ab.s2 aj acY az Tryz.func64 sA
theorem ac0:ab S QC:=ab.step aj acZ az Tryz.func63 (by kernel_rfl) (fun ps r h=>by
 unfold il at h;split at h
 ·rw[eq_63];exact h
 ·cases h)
theorem ac1:ab S QD:=ab.s1 aj ac0 az Tryz.func22 qq
theorem ac2:ab S QE:=ab.s4 aj ac1 az Tryz.func10 pj
theorem ac3:ab S QF:=ab.s1 aj ac2 az Tryz.func101 xW
theorem ac4:ab S QG:=ab.s1 aj ac3 az Tryz.func40 vX
theorem ac5:ab S QH:=ab.s3 aj ac4 az Tryz.func39 xX
theorem ac6:ab S QI:=ab.s2 aj ac5 az Tryz.func102 vY
theorem ac7:ab S QJ:=ab.s3 aj ac6 az Tryz.func41 uS
theorem ac8:ab S QK:=ab.s3 aj ac7 az Tryz.func15 vu
theorem ac9:ab S Jg:=ab.s5 aj ac8 az Tryz.func13 sb
theorem ada:ab S Ji:=ab.step aj ac9 az Tryz.func19 (by kernel_rfl) (fun ps r h=>by
 unfold jZ at h;split at h
 ·rw[eq_19];exact h
 ·cases h)
theorem adb:ab S Jb:=ab.step aj ada az Tryz.func20 (by kernel_rfl) (fun ps r h=>by
 unfold qt at h;split at h
 ·rw[eq_20];exact h
 ·cases h)
theorem ade:ab S QL:=ab.step aj adb az Tryz.func21 (by kernel_rfl) (fun ps r h=>by
 unfold sB at h;split at h
 ·rw[eq_21];exact h
 ·cases h)
theorem adf:ab S Jh:=ab.s2 aj ade az Tryz.func12 F8
theorem adg:ab S QM:=ab.step aj adf az Tryz.func9 (by kernel_rfl) (fun ps r h=>by
 unfold bt at h;split at h
 ·rw[eq_9];exact h
 ·cases h)
theorem adh:ab S QN:=ab.s1 aj adg az Tryz.func45 xY
theorem adi:ab S QO:=ab.s1 aj adh az Tryz.func46 xZ
theorem adj:ab S QP:=ab.s2 aj adi az Tryz.func18 zY
theorem adk:ab S QQ:=ab.s3 aj adj az Tryz.func8 xv
theorem adl:ab S QR:=ab.s3 aj adk az Tryz.func17 xw
theorem adm:ab S QS:=ab.s1 aj adl az Tryz.func7 qC
end Go.Proofs.YtmbihgjlollbeaaGreat
