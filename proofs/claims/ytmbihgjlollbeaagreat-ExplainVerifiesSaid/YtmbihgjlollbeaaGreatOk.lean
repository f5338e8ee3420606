import Derived.Test.YtmbihgjlollbeaaGreatEq1
import Derived.Test.YtmbihgjlollbeaaGreatLays
import Derived.Test.YtmbihgjlollbeaaGreatAbSortKOk
import Derived.Test.YtmbihgjlollbeaaGreatExt
namespace Go.Proofs.YtmbihgjlollbeaaGreat
open Go.Ab
set_option maxRecDepth 1000000
theorem Qu:oL S0:=⟨by kernel_rfl,(fun g h hh=>by cases hh),by kernel_rfl⟩
theorem anK:aa S0 aiN:=aa.nil S0
theorem VO:pT S0 kF:=pT.nil S0
theorem anL:aa S0 aiO:=fun x hx=>(asm.1 hx).elim (fun e=>e▸ahn) (fun h=>anK x h)
theorem anM:aa S0 aiP:=aa.s2 Qu anL VO Tryz.func238 ux
theorem anN:aa S0 aiQ:=aa.s1 Qu anM VO Tryz.func237 Gs
theorem aiR:aa S0 aez:=aa.s2 Qu anN VO Tryz.func236 oW
theorem ake(g:Nat)(M:List PV→Option PV)(h:clo g=some M):Bb S.P S.aW g M:=by
 unfold clo at h;cases e:Nat.beq g 236 with
 |true=>rw[e]at h;have:=Ka e;subst this;cases h;exact aiR (236,cD) (C1 (by kernel_rfl))
 |false=>rw[e]at h;cases h
theorem af:oL S:=⟨by kernel_rfl,(fun g h hh R args f m k r hr=>by
 have hh:(bif Nat.beq g 235 then some (EF 4 clo)else none)=some h:=hh;cases e:Nat.beq g 235 with
 |true=>rw[e]at hh;have:=Ka e;subst this;cases hh;exact PN ahG rfl ⟨Tryz.f235,_,Tryz.func235,rfl,by kernel_rfl⟩ Tryz.isAgg150 Tryz.sizeOf150 ake hr
 |false=>rw[e]at hh;cases hh),by kernel_rfl⟩
theorem aqN:aa S aez:=fun x hx=>aiR x hx
theorem ak:pT S kF:=pT.nil S
theorem aqO:aa S aiS:=aa.s1 af aqN ak Tryz.func107 BO
theorem aqP:aa S aiT:=aa.s1 af aqO ak Tryz.func130 BP
theorem aqQ:aa S aiU:=aa.s4 af aqP ak Tryz.func78 uy
theorem aqR:aa S aiV:=aa.s4 af aqQ ak Tryz.func74 uz
theorem aqS:aa S aiW:=aa.s1 af aqR ak Tryz.func183 q7
theorem anO:aa S aeA:=aa.s3 af aqS ak Tryz.func184 xt
theorem anP:aa S aeB:=aa.s3 af anO ak Tryz.func129 uA
theorem anQ:aa S aeC:=aa.s2 af anP ak Tryz.func77 oA
theorem anR:aa S aeD:=aa.s1 af anQ ak Tryz.func109 uB
theorem anS:aa S aeE:=aa.s2 af anR ak Tryz.func76 nJ
theorem anT:aa S aeF:=aa.s2 af anS ak Tryz.func75 oX
theorem anU:aa S aeG:=aa.s3 af anT ak Tryz.func29 ua
theorem anV:aa S aeH:=aa.s2 af anU ak Tryz.func25 nG
theorem anW:aa S aeI:=aa.s3 af anV ak Tryz.func79 nF
theorem anX:aa S aeJ:=aa.s1 af anW ak Tryz.func26 zq
theorem anY:aa S aeK:=aa.s4 af anX ak Tryz.func131 uV
theorem anZ:aa S aeL:=aa.s2 af anY ak Tryz.func73 uW
theorem an0:aa S aeM:=aa.s3 af anZ ak Tryz.func118 uf
theorem an1:aa S aeN:=aa.s3 af an0 ak Tryz.func156 zU
theorem an2:aa S aeO:=aa.s3 af an1 ak Tryz.func97 MF
theorem an3:aa S aeP:=aa.s2 af an2 ak Tryz.func155 xh
theorem an4:aa S U8:=aa.s1 af an3 ak Tryz.func99 oS
theorem an5:aa S aeQ:=aa.step af an4 ak Tryz.func260 (by kernel_rfl) (fun ps r h=>by
 unfold dV at h;split at h
 ·rw[eq_260];exact h
 ·cases h)
theorem an6:aa S aeR:=aa.s3 af an5 ak Tryz.func246 xp
theorem an7:aa S U4:=aa.s2 af an6 ak Tryz.func262 zX
theorem an8:aa S aeS:=aa.step af an7 ak Tryz.func270 (by kernel_rfl) (fun ps r h=>by
 unfold bf at h;split at h
 ·rw[eq_270];exact h
 ·cases h)
theorem an9:aa S aeT:=aa.s3 af an8 ak Tryz.func249 uv
theorem aoa:aa S aeU:=aa.s1 af an9 ak Tryz.func248 sr
theorem aob:aa S aeV:=aa.s2 af aoa ak Tryz.func247 oU
theorem aoc:aa S aeW:=aa.s2 af aob ak Tryz.func242 BM
theorem aod:aa S aeX:=aa.s3 af aoc ak Tryz.func233 oV
theorem aoe:aa S aeY:=aa.s2 af aod ak Tryz.func204 su
theorem aof:aa S aeZ:=aa.s2 af aoe ak Tryz.func116 xl
theorem aog:aa S ae0:=aa.s2 af aof ak Tryz.func157 qO
theorem aoh:aa S ae1:=aa.s1 af aog ak Tryz.func100 oR
theorem aoi:aa S ae2:=aa.s5 af aoh ak Tryz.func164 Mq
theorem aoj:aa S ae3:=aa.s4 af aoi ak Tryz.func108 Gh
theorem aok:aa S ae4:=aa.s1 af aoj ak Tryz.func105 Dt
theorem aol:aa S ae5:=aa.s1 af aok ak Tryz.func98 qQ
theorem aom:aa S ae6:=aa.s1 af aol ak Tryz.func96 zV
theorem aon:aa S ae7:=aa.s3 af aom ak Tryz.func117 xe
theorem aoo:aa S ae8:=aa.s1 af aon ak Tryz.func66 zQ
theorem aop:aa S ae9:=aa.s1 af aoo ak Tryz.func106 Dy
theorem aoq:aa S afa:=aa.s1 af aop ak Tryz.func50 Dx
theorem aor:aa S afb:=aa.s1 af aoq ak Tryz.func48 Gg
theorem aos:aa S afc:=aa.s1 af aor ak Tryz.func38 zW
theorem aot:aa S afd:=aa.s2 af aos ak Tryz.func67 jd
theorem aou:aa S afe:=aa.s2 af aot ak Tryz.func126 Dm
theorem aov:aa S aff:=aa.s3 af aou ak Tryz.func181 sm
theorem aow:aa S afg:=aa.s3 af aov ak Tryz.func225 Dl
theorem aox:aa S afh:=aa.s4 af aow ak Tryz.func180 sl
theorem aoy:aa S afi:=aa.s2 af aox ak Tryz.func222 sk
theorem aoz:aa S afj:=aa.s2 af aoy ak Tryz.func224 qy
theorem aoA:aa S afk:=aa.s3 af aoz ak Tryz.func220 zL
theorem aoB:aa S afl:=aa.s2 af aoA ak Tryz.func179 wV
theorem aoC:aa S afm:=aa.s2 af aoB ak Tryz.func125 Dp
theorem aoD:aa S afn:=aa.s2 af aoC ak Tryz.func124 BD
theorem aoE:aa S afo:=aa.s2 af aoD ak Tryz.func71 BF
theorem aoF:aa S afp:=aa.s1 af aoE ak Tryz.func177 Gc
theorem aoG:aa S afq:=aa.s1 af aoF ak Tryz.func122 IE
theorem aoH:aa S afr:=aa.s2 af aoG ak Tryz.func123 wT
theorem aoI:aa S afs:=aa.s2 af aoH ak Tryz.func176 uo
theorem aoJ:aa S aft:=aa.s2 af aoI ak Tryz.func121 zK
theorem aoK:aa S afu:=aa.s2 af aoJ ak Tryz.func70 sR
theorem aoL:aa S afv:=aa.s1 af aoK ak Tryz.func72 Bz
theorem aoM:aa S afw:=aa.s3 af aoL ak Tryz.func24 vn
theorem aoN:aa S afx:=aa.s3 af aoM ak Tryz.func69 vo
theorem aoO:aa S afy:=aa.s1 af aoN ak Tryz.func215 mz
theorem aoP:aa S afz:=aa.s1 af aoO ak Tryz.func216 gY
theorem aoQ:aa S afA:=aa.s2 af aoP ak Tryz.func217 jR
theorem aoR:aa S afB:=aa.s1 af aoQ ak Tryz.func174 jS
theorem aoS:aa S afC:=aa.s1 af aoR ak Tryz.func172 gh
theorem aoT:aa S afD:=aa.s1 af aoS ak Tryz.func173 lE
theorem aoU:aa S afE:=aa.s1 af aoT ak Tryz.func218 jQ
theorem aoV:aa S afF:=aa.s2 af aoU ak Tryz.func219 lC
theorem aoW:aa S afG:=aa.s1 af aoV ak Tryz.func175 kL
theorem aoX:aa S afH:=aa.s1 af aoW ak Tryz.func212 iO
theorem aoY:aa S afI:=aa.s1 af aoX ak Tryz.func211 gf
theorem aoZ:aa S afJ:=aa.s1 af aoY ak Tryz.func240 kJ
theorem ao0:aa S afK:=aa.s1 af aoZ ak Tryz.func214 gR
theorem ao1:aa S afL:=aa.s1 af ao0 ak Tryz.func213 lD
theorem ao2:aa S afM:=aa.s1 af ao1 ak Tryz.func171 mA
theorem ao3:aa S afN:=aa.s1 af ao2 ak Tryz.func119 kM
theorem ao4:aa S afO:=aa.s3 af ao3 ak Tryz.func68 zI
theorem ao5:aa S U5:=aa.s3 af ao4 ak Tryz.func23 qg
theorem ao6:aa S U9:=aa.step af ao5 ak Tryz.func47 (by kernel_rfl) (fun ps r h=>by
 unfold jo at h;split at h
 ·rw[eq_47];exact h
 ·cases h)
theorem ao7:aa S Va:=aa.step af ao6 ak Tryz.func65 (by kernel_rfl) (fun ps r h=>by
 unfold iC at h;split at h
 ·rw[eq_65];exact h
 ·cases h)
theorem ao8:aa S afP:=aa.step af ao7 ak Tryz.func49 (by kernel_rfl) (fun ps r h=>by
 unfold jq at h;split at h
 ·rw[eq_49];exact h
 ·cases h)
theorem ao9:aa S U6:=aa.s1 af ao8 ak Tryz.func52 xv
theorem apa:aa S afQ:=aa.step af ao9 ak Tryz.func51 (by kernel_rfl) (fun ps r h=>by
 unfold jr at h;split at h
 ·rw[eq_51];exact h
 ·cases h)
theorem apb:aa S Vb:=aa.s2 af apa ak Tryz.func54 iR
theorem apc:aa S afR:=aa.step af apb ak Tryz.func53 (by kernel_rfl) (fun ps r h=>by
 unfold jt at h;split at h
 ·rw[eq_53];exact h
 ·cases h)
theorem apd:aa S U7:=aa.s4 af apc ak Tryz.func56 Gt
theorem ape:aa S afS:=aa.step af apd ak Tryz.func55 (by kernel_rfl) (fun ps r h=>by
 unfold ju at h;split at h
 ·rw[eq_55];exact h
 ·cases h)
theorem apf:aa S afT:=aa.s1 af ape ak Tryz.func111 uC
theorem akf:aa S XI:=aa.s1 af apf ak Tryz.func165 xw
theorem akg:aa S XJ:=aa.s2 af akf ak Tryz.func110 xx
theorem akh:aa S P1:=aa.s2 af akg ak Tryz.func58 uD
theorem aki:aa S XK:=aa.step af akh ak Tryz.func57 (by kernel_rfl) (fun ps r h=>by
 unfold jw at h;split at h
 ·rw[eq_57];exact h
 ·cases h)
theorem akj:aa S XL:=aa.s2 af aki ak Tryz.func113 uE
theorem akk:aa S XM:=aa.s2 af akj ak Tryz.func210 BQ
theorem akl:aa S XN:=aa.s2 af akk ak Tryz.func167 zY
theorem akm:aa S P3:=aa.s3 af akl ak Tryz.func114 zZ
theorem akn:aa S XO:=aa.step af akm ak Tryz.func166 (by kernel_rfl) (fun ps r h=>by
 unfold gv at h;split at h
 ·rw[eq_166];exact h
 ·cases h)
theorem ako:aa S XP:=aa.s4 af akn ak Tryz.func112 BR
theorem akp:aa S P2:=aa.s3 af ako ak Tryz.func60 Aa
theorem akq:aa S XQ:=aa.step af akp ak Tryz.func59 (by kernel_rfl) (fun ps r h=>by
 unfold jx at h;split at h
 ·rw[eq_59];exact h
 ·cases h)
theorem akr:aa S XR:=aa.s2 af akq ak Tryz.func168 q8
theorem aks:aa S XS:=aa.s2 af akr ak Tryz.func169 sw
theorem akt:aa S XT:=aa.s3 af aks ak Tryz.func115 Ac
theorem aku:aa S P4:=aa.s4 af akt ak Tryz.func62 jZ
theorem akv:aa S XU:=aa.step af aku ak Tryz.func61 (by kernel_rfl) (fun ps r h=>by
 unfold jy at h;split at h
 ·rw[eq_61];exact h
 ·cases h)
theorem akw:aa S PZ:=aa.s2 af akv ak Tryz.func64 xy
theorem akx:aa S XV:=aa.step af akw ak Tryz.func63 (by kernel_rfl) (fun ps r h=>by
 unfold jz at h;split at h
 ·rw[eq_63];exact h
 ·cases h)
theorem aky:aa S XW:=aa.s1 af akx ak Tryz.func22 uF
theorem akz:aa S XX:=aa.s4 af aky ak Tryz.func10 sO
theorem akA:aa S XY:=aa.s1 af akz ak Tryz.func101 DQ
theorem akB:aa S XZ:=aa.s1 af akA ak Tryz.func40 Ca
theorem akC:aa S X0:=aa.s3 af akB ak Tryz.func39 DR
theorem akD:aa S X1:=aa.s2 af akC ak Tryz.func102 Cb
theorem akE:aa S X2:=aa.s3 af akD ak Tryz.func41 AV
theorem akF:aa S X3:=aa.s3 af akE ak Tryz.func15 Bt
theorem akG:aa S P5:=aa.s5 af akF ak Tryz.func13 qf
theorem akH:aa S P7:=aa.step af akG ak Tryz.func19 (by kernel_rfl) (fun ps r h=>by
 unfold lV at h;split at h
 ·rw[eq_19];exact h
 ·cases h)
theorem akI:aa S P0:=aa.step af akH ak Tryz.func20 (by kernel_rfl) (fun ps r h=>by
 unfold uG at h;split at h
 ·rw[eq_20];exact h
 ·cases h)
theorem akJ:aa S X4:=aa.step af akI ak Tryz.func21 (by kernel_rfl) (fun ps r h=>by
 unfold xz at h;split at h
 ·rw[eq_21];exact h
 ·cases h)
theorem akK:aa S P6:=aa.s2 af akJ ak Tryz.func12 F4
theorem akL:aa S X5:=aa.step af akK ak Tryz.func9 (by kernel_rfl) (fun ps r h=>by
 unfold cC at h;split at h
 ·rw[eq_9];exact h
 ·cases h)
theorem akM:aa S X6:=aa.s2 af akL ak Tryz.func186 Gu
theorem akN:aa S X7:=aa.s1 af akM ak Tryz.func185 sx
theorem akO:aa S X8:=aa.s1 af akN ak Tryz.func132 DS
theorem akP:aa S X9:=aa.s1 af akO ak Tryz.func152 yR
theorem akQ:aa S Ya:=aa.s1 af akP ak Tryz.func189 DT
theorem akR:aa S Yb:=aa.s1 af akQ ak Tryz.func134 DU
theorem akS:aa S Yc:=aa.s2 af akR ak Tryz.func135 lH
theorem akT:aa S Yd:=aa.s1 af akS ak Tryz.func187 Gv
theorem akU:aa S Ye:=aa.s1 af akT ak Tryz.func188 Gw
theorem akV:aa S Yf:=aa.s1 af akU ak Tryz.func133 DV
theorem akW:aa S Yg:=aa.s2 af akV ak Tryz.func226 Gx
theorem akX:aa S Yh:=aa.s2 af akW ak Tryz.func227 DW
theorem akY:aa S Yi:=aa.s5 af akX ak Tryz.func190 I1
theorem akZ:aa S Yj:=aa.s4 af akY ak Tryz.func136 DX
theorem ak0:aa S Yk:=aa.s1 af akZ ak Tryz.func45 DY
theorem ak1:aa S Yl:=aa.s1 af ak0 ak Tryz.func46 DZ
theorem ak2:aa S Ym:=aa.s3 af ak1 ak Tryz.func203 D2
theorem ak3:aa S Yn:=aa.s2 af ak2 ak Tryz.func154 yS
theorem ak4:aa S Yo:=aa.s1 af ak3 ak Tryz.func151 vC
theorem ak5:aa S Yp:=aa.s2 af ak4 ak Tryz.func191 Gy
theorem ak6:aa S Yq:=aa.s2 af ak5 ak Tryz.func137 D3
theorem ak7:aa S Yr:=aa.s2 af ak6 ak Tryz.func230 I2
theorem ak8:aa S Ys:=aa.s2 af ak7 ak Tryz.func241 Gz
theorem ak9:aa S Yt:=aa.s2 af ak8 ak Tryz.func231 D4
theorem ala:aa S Yu:=aa.s2 af ak9 ak Tryz.func228 MG
theorem alb:aa S Yv:=aa.s2 af ala ak Tryz.func229 xA
theorem alc:aa S Yw:=aa.s4 af alb ak Tryz.func192 I3
theorem ald:aa S Yx:=aa.s3 af alc ak Tryz.func138 D5
theorem ale:aa S Yy:=aa.s3 af ald ak Tryz.func232 D6
theorem alf:aa S Yz:=aa.s5 af ale ak Tryz.func193 uH
theorem alg:aa S YA:=aa.s4 af alf ak Tryz.func139 lI
theorem alh:aa S YB:=aa.s2 af alg ak Tryz.func194 D7
theorem ali:aa S YC:=aa.s2 af alh ak Tryz.func140 D8
theorem alj:aa S YD:=aa.s3 af ali ak Tryz.func195 BS
theorem alk:aa S YE:=aa.s1 af alj ak Tryz.func196 D9
theorem alm:aa S YF:=aa.s1 af alk ak Tryz.func141 Ea
theorem aln:aa S YG:=aa.s2 af alm ak Tryz.func81 GA
theorem alo:aa S YH:=aa.s1 af aln ak Tryz.func31 Eb
theorem alp:aa S YI:=aa.s2 af alo ak Tryz.func87 BC
theorem alq:aa S YJ:=aa.s1 af alp ak Tryz.func201 Ge
theorem alr:aa S YK:=aa.s3 af alq ak Tryz.func202 vt
theorem als:aa S YM:=aa.s4 af alr ak Tryz.func149 BB
theorem alu:aa S YN:=aa.s4 af als ak Tryz.func150 qB
theorem alv:aa S YO:=aa.s2 af alu ak Tryz.func86 Dr
theorem alw:aa S YP:=aa.s1 af alv ak Tryz.func205 zN
theorem alx:aa S YQ:=aa.s3 af alw ak Tryz.func206 Mn
theorem aly:aa S YR:=aa.s1 af alx ak Tryz.func163 Dz
theorem alz:aa S YS:=aa.s4 af aly ak Tryz.func208 DG
theorem alA:aa S YT:=aa.s2 af alz ak Tryz.func161 Gm
theorem alC:aa S YU:=aa.s3 af alA ak Tryz.func239 xr
theorem alD:aa S YV:=aa.s2 af alC ak Tryz.func209 BN
theorem alE:aa S YW:=aa.s1 af alD ak Tryz.func162 DD
theorem alF:aa S YX:=aa.s1 af alE ak Tryz.func159 BH
theorem alG:aa S YY:=aa.s4 af alF ak Tryz.func207 DC
theorem alH:aa S YZ:=aa.s2 af alG ak Tryz.func160 IQ
theorem alI:aa S Y0:=aa.s1 af alH ak Tryz.func158 Dw
theorem alJ:aa S Y1:=aa.s1 af alI ak Tryz.func103 DJ
theorem alK:aa S Y2:=aa.s1 af alJ ak Tryz.func42 Dc
theorem alL:aa S Y3:=aa.s2 af alK ak Tryz.func147 Bu
theorem alM:aa S Y4:=aa.s2 af alL ak Tryz.func148 Di
theorem alN:aa S Y5:=aa.s2 af alM ak Tryz.func85 Dj
theorem alO:aa S Y6:=aa.s1 af alN ak Tryz.func88 Gb
theorem alP:aa S Y7:=aa.s3 af alO ak Tryz.func33 Gf
theorem alQ:aa S Y8:=aa.s2 af alP ak Tryz.func34 pY
theorem alR:aa S Y9:=aa.s3 af alQ ak Tryz.func197 L6
theorem alS:aa S Za:=aa.s2 af alR ak Tryz.func142 sc
theorem alT:aa S Zb:=aa.s2 af alS ak Tryz.func82 sd
theorem alU:aa S Zc:=aa.s3 af alT ak Tryz.func146 F8
theorem alV:aa S Zd:=aa.s3 af alU ak Tryz.func144 Df
theorem alW:aa S Ze:=aa.s4 af alV ak Tryz.func200 Bv
theorem alX:aa S Zf:=aa.s3 af alW ak Tryz.func145 Bw
theorem alY:aa S Zg:=aa.s3 af alX ak Tryz.func198 Ga
theorem alZ:aa S Zh:=aa.s3 af alY ak Tryz.func199 F9
theorem al0:aa S Zi:=aa.s3 af alZ ak Tryz.func143 wR
theorem al1:aa S Zj:=aa.s4 af al0 ak Tryz.func83 Mc
theorem al2:aa S Zk:=aa.s3 af al1 ak Tryz.func84 IK
theorem al3:aa S Zl:=aa.s3 af al2 ak Tryz.func32 Dk
theorem al4:aa S Zm:=aa.s1 af al3 ak Tryz.func153 Ad
theorem al5:aa S Zn:=aa.s4 af al4 ak Tryz.func93 BT
theorem al6:aa S Zo:=aa.s4 af al5 ak Tryz.func89 BU
theorem al7:aa S Zp:=aa.s2 af al6 ak Tryz.func91 uI
theorem al8:aa S Zq:=aa.s2 af al7 ak Tryz.func90 xB
theorem al9:aa S Zr:=aa.s2 af al8 ak Tryz.func35 C3
theorem ama:aa S Zs:=aa.s3 af al9 ak Tryz.func94 FZ
theorem amb:aa S Zt:=aa.s4 af ama ak Tryz.func95 MH
theorem amc:aa S Zu:=aa.s3 af amb ak Tryz.func92 MI
theorem amd:aa S Zv:=aa.s5 af amc ak Tryz.func36 C8
theorem ame:aa S Zw:=aa.s2 af amd ak Tryz.func37 wN
theorem amf:aa S Zx:=aa.s4 af ame ak Tryz.func11 C9
theorem amg:aa S Zy:=aa.s2 af amf ak Tryz.func18 F5
theorem amh:aa S Zz:=aa.s3 af amg ak Tryz.func8 Da
theorem ami:aa S ZA:=aa.s5 af amh ak Tryz.func14 Bs
theorem amj:aa S ZB:=aa.s2 af ami ak Tryz.func4 rQ
end Go.Proofs.YtmbihgjlollbeaaGreat
