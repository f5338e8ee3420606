import Derived.Test.YtmbihgjlollbeaaGreatEq1
import Derived.Test.YtmbihgjlollbeaaGreatLays
import Derived.Test.YtmbihgjlollbeaaGreatAbSortKOk
import Derived.Test.YtmbihgjlollbeaaGreatExt
namespace Go.Proofs.YtmbihgjlollbeaaGreat
open Go.Ab
set_option maxRecDepth 1000000
theorem Kf:mK S0:=⟨by kernel_rfl,(fun g h hh=>by cases hh),by kernel_rfl⟩
theorem afW:aa S0 acw:=aa.nil S0
theorem Pw:nE S0 jn:=nE.nil S0
theorem afX:aa S0 acx:=fun x hx=>(ake.1 hx).elim (fun e=>e▸aaS) (fun h=>afW x h)
theorem afY:aa S0 acy:=aa.s2 Kf afX Pw Tryz.func238 qy
theorem afZ:aa S0 acz:=aa.s1 Kf afY Pw Tryz.func237 AQ
theorem acA:aa S0 Xu:=aa.s2 Kf afZ Pw Tryz.func236 mS
theorem adU(g:Nat)(M:List PV→Option PV)(h:clo g=some M):vA S.P S.aG g M:=by
 unfold clo at h;cases e:Nat.beq g 236 with
 |true=>rw[e]at h;have:=IN e;subst this;cases h;exact acA (236,cd) (xV (by kernel_rfl))
 |false=>rw[e]at h;cases h
theorem ai:mK S:=⟨by kernel_rfl,(fun g h hh R args f m k r hr=>by
 have hh:(bif Nat.beq g 235 then some (zf 4 clo)else none)=some h:=hh;cases e:Nat.beq g 235 with
 |true=>rw[e]at hh;have:=IN e;subst this;cases hh;exact Jw aa9 rfl ⟨Tryz.f235,_,Tryz.func235,rfl,by kernel_rfl⟩ Tryz.isAgg150 Tryz.sizeOf150 adU hr
 |false=>rw[e]at hh;cases hh),by kernel_rfl⟩
theorem ai3:aa S Xu:=fun x hx=>acA x hx
theorem ay:nE S jn:=nE.nil S
theorem ai4:aa S acB:=aa.s1 ai ai3 ay Tryz.func107 wg
theorem ai5:aa S acC:=aa.s1 ai ai4 ay Tryz.func130 wh
theorem ai6:aa S acD:=aa.s4 ai ai5 ay Tryz.func78 qz
theorem ai7:aa S acE:=aa.s4 ai ai6 ay Tryz.func74 qA
theorem ai8:aa S acF:=aa.s1 ai ai7 ay Tryz.func183 ov
theorem af0:aa S Xv:=aa.s3 ai ai8 ay Tryz.func184 s8
theorem af1:aa S Xw:=aa.s3 ai af0 ay Tryz.func129 qB
theorem af2:aa S Xx:=aa.s2 ai af1 ay Tryz.func77 mA
theorem af3:aa S Xy:=aa.s1 ai af2 ay Tryz.func109 qC
theorem af4:aa S Xz:=aa.s2 ai af3 ay Tryz.func76 lU
theorem af5:aa S XA:=aa.s2 ai af4 ay Tryz.func75 mT
theorem af6:aa S XB:=aa.s3 ai af5 ay Tryz.func29 qm
theorem af7:aa S XC:=aa.s2 ai af6 ay Tryz.func25 lQ
theorem af8:aa S XD:=aa.s3 ai af7 ay Tryz.func79 lP
theorem af9:aa S XE:=aa.s1 ai af8 ay Tryz.func26 ua
theorem aga:aa S XF:=aa.s4 ai af9 ay Tryz.func131 qP
theorem agb:aa S XG:=aa.s2 ai aga ay Tryz.func73 qQ
theorem agc:aa S XH:=aa.s3 ai agb ay Tryz.func118 qq
theorem agd:aa S XI:=aa.s3 ai agc ay Tryz.func156 ur
theorem age:aa S XJ:=aa.s3 ai agd ay Tryz.func97 GG
theorem agf:aa S XK:=aa.s2 ai age ay Tryz.func155 sV
theorem agh:aa S OT:=aa.s1 ai agf ay Tryz.func99 mO
theorem agi:aa S XL:=aa.step ai agh ay Tryz.func260 (by kernel_rfl) (fun ps r h=>by
 unfold dw at h;split at h
 ·rw[eq_260];exact h
 ·cases h)
theorem agj:aa S XM:=aa.s3 ai agi ay Tryz.func246 sZ
theorem agk:aa S OP:=aa.s2 ai agj ay Tryz.func262 uw
theorem agl:aa S XN:=aa.step ai agk ay Tryz.func270 (by kernel_rfl) (fun ps r h=>by
 unfold aK at h;split at h
 ·rw[eq_270];exact h
 ·cases h)
theorem agm:aa S XO:=aa.s3 ai agl ay Tryz.func249 qw
theorem agn:aa S XP:=aa.s1 ai agm ay Tryz.func248 pk
theorem ago:aa S XQ:=aa.s2 ai agn ay Tryz.func247 mQ
theorem agp:aa S XR:=aa.s2 ai ago ay Tryz.func242 we
theorem agq:aa S XS:=aa.s3 ai agp ay Tryz.func233 mR
theorem agr:aa S XT:=aa.s2 ai agq ay Tryz.func204 pn
theorem ags:aa S XU:=aa.s2 ai agr ay Tryz.func116 sW
theorem agt:aa S XV:=aa.s2 ai ags ay Tryz.func157 ob
theorem agu:aa S XW:=aa.s1 ai agt ay Tryz.func100 mN
theorem agv:aa S XX:=aa.s5 ai agu ay Tryz.func164 Gv
theorem agw:aa S XY:=aa.s4 ai agv ay Tryz.func108 AH
theorem agx:aa S XZ:=aa.s1 ai agw ay Tryz.func105 yu
theorem agy:aa S X0:=aa.s1 ai agx ay Tryz.func98 od
theorem agz:aa S X1:=aa.s1 ai agy ay Tryz.func96 uu
theorem agA:aa S X2:=aa.s3 ai agz ay Tryz.func117 sU
theorem agB:aa S X3:=aa.s1 ai agA ay Tryz.func66 uk
theorem agC:aa S X4:=aa.s1 ai agB ay Tryz.func106 yy
theorem agD:aa S X5:=aa.s1 ai agC ay Tryz.func50 yw
theorem agE:aa S X6:=aa.s1 ai agD ay Tryz.func48 AG
theorem agF:aa S X7:=aa.s1 ai agE ay Tryz.func38 uv
theorem agG:aa S X8:=aa.s2 ai agF ay Tryz.func67 gU
theorem agH:aa S X9:=aa.s2 ai agG ay Tryz.func126 yq
theorem agI:aa S Ya:=aa.s3 ai agH ay Tryz.func181 pf
theorem agJ:aa S Yb:=aa.s3 ai agI ay Tryz.func225 yn
theorem agK:aa S Yc:=aa.s4 ai agJ ay Tryz.func180 pe
theorem agL:aa S Yd:=aa.s2 ai agK ay Tryz.func222 pd
theorem agM:aa S Ye:=aa.s2 ai agL ay Tryz.func224 nU
theorem agN:aa S Yf:=aa.s3 ai agM ay Tryz.func220 uh
theorem agO:aa S Yg:=aa.s2 ai agN ay Tryz.func179 sQ
theorem agP:aa S Yh:=aa.s2 ai agO ay Tryz.func125 yt
theorem agQ:aa S Yi:=aa.s2 ai agP ay Tryz.func124 vV
theorem agR:aa S Yj:=aa.s2 ai agQ ay Tryz.func71 vX
theorem agS:aa S Yk:=aa.s1 ai agR ay Tryz.func177 AF
theorem agT:aa S Yl:=aa.s1 ai agS ay Tryz.func122 CF
theorem agU:aa S Ym:=aa.s2 ai agT ay Tryz.func123 sP
theorem agV:aa S Yn:=aa.s2 ai agU ay Tryz.func176 qv
theorem agW:aa S Yo:=aa.s2 ai agV ay Tryz.func121 ug
theorem agX:aa S Yp:=aa.s2 ai agW ay Tryz.func70 pG
theorem agY:aa S Yq:=aa.s1 ai agX ay Tryz.func72 vU
theorem agZ:aa S Yr:=aa.s3 ai agY ay Tryz.func24 rz
theorem ag0:aa S Ys:=aa.s3 ai agZ ay Tryz.func69 rA
theorem ag1:aa S Yt:=aa.s1 ai ag0 ay Tryz.func215 kF
theorem ag2:aa S Yu:=aa.s1 ai ag1 ay Tryz.func216 gm
theorem ag4:aa S Yv:=aa.s2 ai ag2 ay Tryz.func217 iL
theorem ag5:aa S Yw:=aa.s1 ai ag4 ay Tryz.func174 iM
theorem ag6:aa S Yx:=aa.s1 ai ag5 ay Tryz.func172 fD
theorem ag7:aa S Yy:=aa.s1 ai ag6 ay Tryz.func173 jM
theorem ag8:aa S Yz:=aa.s1 ai ag7 ay Tryz.func218 iK
theorem ag9:aa S YA:=aa.s2 ai ag8 ay Tryz.func219 jK
theorem aha:aa S YB:=aa.s1 ai ag9 ay Tryz.func175 jq
theorem ahb:aa S YC:=aa.s1 ai aha ay Tryz.func212 gP
theorem ahc:aa S YD:=aa.s1 ai ahb ay Tryz.func211 fB
theorem ahd:aa S YE:=aa.s1 ai ahc ay Tryz.func240 jo
theorem ahe:aa S YF:=aa.s1 ai ahd ay Tryz.func214 gi
theorem ahf:aa S YG:=aa.s1 ai ahe ay Tryz.func213 jL
theorem ahg:aa S YH:=aa.s1 ai ahf ay Tryz.func171 kG
theorem ahh:aa S YI:=aa.s1 ai ahg ay Tryz.func119 jr
theorem ahi:aa S YJ:=aa.s3 ai ahh ay Tryz.func68 uf
theorem ahj:aa S OQ:=aa.s3 ai ahi ay Tryz.func23 nJ
theorem ahk:aa S OU:=aa.step ai ahj ay Tryz.func47 (by kernel_rfl) (fun ps r h=>by
 unfold hZ at h;split at h
 ·rw[eq_47];exact h
 ·cases h)
theorem ahl:aa S OV:=aa.step ai ahk ay Tryz.func65 (by kernel_rfl) (fun ps r h=>by
 unfold gG at h;split at h
 ·rw[eq_65];exact h
 ·cases h)
theorem ahm:aa S YK:=aa.step ai ahl ay Tryz.func49 (by kernel_rfl) (fun ps r h=>by
 unfold ic at h;split at h
 ·rw[eq_49];exact h
 ·cases h)
theorem ahn:aa S OR:=aa.s1 ai ahm ay Tryz.func52 s9
theorem aho:aa S YM:=aa.step ai ahn ay Tryz.func51 (by kernel_rfl) (fun ps r h=>by
 unfold ig at h;split at h
 ·rw[eq_51];exact h
 ·cases h)
theorem ahp:aa S OW:=aa.s2 ai aho ay Tryz.func54 gR
theorem ahq:aa S YN:=aa.step ai ahp ay Tryz.func53 (by kernel_rfl) (fun ps r h=>by
 unfold ij at h;split at h
 ·rw[eq_53];exact h
 ·cases h)
theorem ahr:aa S OS:=aa.s4 ai ahq ay Tryz.func56 AR
theorem ahs:aa S YO:=aa.step ai ahr ay Tryz.func55 (by kernel_rfl) (fun ps r h=>by
 unfold il at h;split at h
 ·rw[eq_55];exact h
 ·cases h)
theorem aht:aa S YP:=aa.s1 ai ahs ay Tryz.func111 qD
theorem adV:aa S Rv:=aa.s1 ai aht ay Tryz.func165 ta
theorem adW:aa S Rw:=aa.s2 ai adV ay Tryz.func110 tb
theorem adX:aa S JO:=aa.s2 ai adW ay Tryz.func58 qE
theorem adY:aa S Rx:=aa.step ai adX ay Tryz.func57 (by kernel_rfl) (fun ps r h=>by
 unfold im at h;split at h
 ·rw[eq_57];exact h
 ·cases h)
theorem adZ:aa S Ry:=aa.s2 ai adY ay Tryz.func113 qF
theorem ad0:aa S Rz:=aa.s2 ai adZ ay Tryz.func210 wj
theorem ad1:aa S RA:=aa.s2 ai ad0 ay Tryz.func167 ux
theorem ad2:aa S JQ:=aa.s3 ai ad1 ay Tryz.func114 uy
theorem ad3:aa S RB:=aa.step ai ad2 ay Tryz.func166 (by kernel_rfl) (fun ps r h=>by
 unfold fQ at h;split at h
 ·rw[eq_166];exact h
 ·cases h)
theorem ad4:aa S RC:=aa.s4 ai ad3 ay Tryz.func112 wm
theorem ad5:aa S JP:=aa.s3 ai ad4 ay Tryz.func60 uz
theorem ad6:aa S RD:=aa.step ai ad5 ay Tryz.func59 (by kernel_rfl) (fun ps r h=>by
 unfold iq at h;split at h
 ·rw[eq_59];exact h
 ·cases h)
theorem ad7:aa S RE:=aa.s2 ai ad6 ay Tryz.func168 ow
theorem ad8:aa S RF:=aa.s2 ai ad7 ay Tryz.func169 po
theorem ad9:aa S RG:=aa.s3 ai ad8 ay Tryz.func115 uA
theorem aea:aa S JR:=aa.s4 ai ad9 ay Tryz.func62 iQ
theorem aeb:aa S RH:=aa.step ai aea ay Tryz.func61 (by kernel_rfl) (fun ps r h=>by
 unfold ir at h;split at h
 ·rw[eq_61];exact h
 ·cases h)
theorem aec:aa S JM:=aa.s2 ai aeb ay Tryz.func64 tc
theorem aed:aa S RI:=aa.step ai aec ay Tryz.func63 (by kernel_rfl) (fun ps r h=>by
 unfold iu at h;split at h
 ·rw[eq_63];exact h
 ·cases h)
theorem aee:aa S RJ:=aa.s1 ai aed ay Tryz.func22 qG
theorem aef:aa S RL:=aa.s4 ai aee ay Tryz.func10 pF
theorem aeg:aa S RM:=aa.s1 ai aef ay Tryz.func101 sJ
theorem aeh:aa S RN:=aa.s1 ai aeg ay Tryz.func40 qn
theorem aei:aa S RO:=aa.s3 ai aeh ay Tryz.func39 sL
theorem aej:aa S RP:=aa.s2 ai aei ay Tryz.func102 qo
theorem aek:aa S RQ:=aa.s3 ai aej ay Tryz.func41 oV
theorem ael:aa S RR:=aa.s3 ai aek ay Tryz.func15 ry
theorem aem:aa S JS:=aa.s5 ai ael ay Tryz.func13 nI
theorem aen:aa S JU:=aa.step ai aem ay Tryz.func19 (by kernel_rfl) (fun ps r h=>by
 unfold j9 at h;split at h
 ·rw[eq_19];exact h
 ·cases h)
theorem aeo:aa S JN:=aa.step ai aen ay Tryz.func20 (by kernel_rfl) (fun ps r h=>by
 unfold qH at h;split at h
 ·rw[eq_20];exact h
 ·cases h)
theorem aep:aa S RS:=aa.step ai aeo ay Tryz.func21 (by kernel_rfl) (fun ps r h=>by
 unfold td at h;split at h
 ·rw[eq_21];exact h
 ·cases h)
theorem aeq:aa S JT:=aa.s2 ai aep ay Tryz.func12 GH
theorem aer:aa S RT:=aa.step ai aeq ay Tryz.func9 (by kernel_rfl) (fun ps r h=>by
 unfold bt at h;split at h
 ·rw[eq_9];exact h
 ·cases h)
theorem aes:aa S RU:=aa.s1 ai aer ay Tryz.func45 yI
theorem aet:aa S RV:=aa.s1 ai aes ay Tryz.func46 yJ
theorem aeu:aa S RW:=aa.s2 ai aet ay Tryz.func18 AA
theorem aev:aa S RX:=aa.s3 ai aeu ay Tryz.func8 yb
theorem aew:aa S RY:=aa.s3 ai aev ay Tryz.func6 te
end Go.Proofs.YtmbihgjlollbeaaGreat
