import Derived.Test.YtmbihgjlollbeaaGreatEq1
import Derived.Test.YtmbihgjlollbeaaGreatLays
import Derived.Test.YtmbihgjlollbeaaGreatAbSortKOk
import Derived.Test.YtmbihgjlollbeaaGreatExt
namespace Go.Proofs.YtmbihgjlollbeaaGreat
open Go.Ab
set_option maxRecDepth 1000000
theorem Qo:oL S0:=⟨by kernel_rfl,(fun g h hh=>by cases hh),by kernel_rfl⟩
theorem anB:aa S0 aiy:=aa.nil S0
theorem VG:pS S0 kq:=pS.nil S0
theorem anC:aa S0 aiz:=fun x hx=>(asg.1 hx).elim (fun e=>e▸ag7) (fun h=>anB x h)
theorem anD:aa S0 aiA:=aa.s2 Qo anC VG Tryz.func238 uo
theorem anE:aa S0 aiB:=aa.s1 Qo anD VG Tryz.func237 Gl
theorem aiC:aa S0 aek:=aa.s2 Qo anE VG Tryz.func236 oV
theorem aj7(g:Nat)(M:List PV→Option PV)(h:clo g=some M):AX S.P S.aW g M:=by
 unfold clo at h;cases e:Nat.beq g 236 with
 |true=>rw[e]at h;have:=OF e;subst this;cases h;exact aiC (236,cD) (CW (by kernel_rfl))
 |false=>rw[e]at h;cases h
theorem af:oL S:=⟨by kernel_rfl,(fun g h hh R args f m k r hr=>by
 have hh:(bif Nat.beq g 235 then some (EB 4 clo)else none)=some h:=hh;cases e:Nat.beq g 235 with
 |true=>rw[e]at hh;have:=OF e;subst this;cases hh;exact PG ahq rfl ⟨Tryz.f235,_,Tryz.func235,rfl,by kernel_rfl⟩ Tryz.isAgg150 Tryz.sizeOf150 aj7 hr
 |false=>rw[e]at hh;cases hh),by kernel_rfl⟩
theorem aqG:aa S aek:=fun x hx=>aiC x hx
theorem ak:pS S kq:=pS.nil S
theorem aqH:aa S aiD:=aa.s1 af aqG ak Tryz.func107 BK
theorem aqI:aa S aiE:=aa.s1 af aqH ak Tryz.func130 BL
theorem aqJ:aa S aiF:=aa.s4 af aqI ak Tryz.func78 uq
theorem aqK:aa S aiG:=aa.s4 af aqJ ak Tryz.func74 ur
theorem aqL:aa S aiH:=aa.s1 af aqK ak Tryz.func183 qX
theorem anF:aa S ael:=aa.s3 af aqL ak Tryz.func184 xn
theorem anG:aa S aem:=aa.s3 af anF ak Tryz.func129 uu
theorem anH:aa S aen:=aa.s2 af anG ak Tryz.func77 oA
theorem anI:aa S aeo:=aa.s1 af anH ak Tryz.func109 uv
theorem anJ:aa S aep:=aa.s2 af anI ak Tryz.func76 nI
theorem anK:aa S aeq:=aa.s2 af anJ ak Tryz.func75 oW
theorem anL:aa S aer:=aa.s3 af anK ak Tryz.func29 tV
theorem anM:aa S aes:=aa.s2 af anL ak Tryz.func25 nF
theorem anN:aa S aet:=aa.s3 af anM ak Tryz.func79 nE
theorem anO:aa S aeu:=aa.s1 af anN ak Tryz.func26 zl
theorem anP:aa S aev:=aa.s4 af anO ak Tryz.func131 uP
theorem anQ:aa S aew:=aa.s2 af anP ak Tryz.func73 uQ
theorem anR:aa S aex:=aa.s3 af anQ ak Tryz.func118 tZ
theorem anS:aa S aey:=aa.s3 af anR ak Tryz.func156 zF
theorem anT:aa S aez:=aa.s3 af anS ak Tryz.func97 MA
theorem anU:aa S aeA:=aa.s2 af anT ak Tryz.func155 xc
theorem anV:aa S U0:=aa.s1 af anU ak Tryz.func99 oR
theorem anW:aa S aeB:=aa.step af anV ak Tryz.func260 (by kernel_rfl) (fun ps r h=>by
 unfold dU at h;split at h
 ·rw[eq_260];exact h
 ·cases h)
theorem anX:aa S aeC:=aa.s3 af anW ak Tryz.func246 xh
theorem anY:aa S UW:=aa.s2 af anX ak Tryz.func262 zI
theorem anZ:aa S aeD:=aa.step af anY ak Tryz.func270 (by kernel_rfl) (fun ps r h=>by
 unfold bd at h;split at h
 ·rw[eq_270];exact h
 ·cases h)
theorem an0:aa S aeE:=aa.s3 af anZ ak Tryz.func249 uj
theorem an1:aa S aeF:=aa.s1 af an0 ak Tryz.func248 sn
theorem an2:aa S aeG:=aa.s2 af an1 ak Tryz.func247 oT
theorem an3:aa S aeH:=aa.s2 af an2 ak Tryz.func242 BI
theorem an4:aa S aeI:=aa.s3 af an3 ak Tryz.func233 oU
theorem an5:aa S aeJ:=aa.s2 af an4 ak Tryz.func204 so
theorem an6:aa S aeK:=aa.s2 af an5 ak Tryz.func116 xd
theorem an7:aa S aeL:=aa.s2 af an6 ak Tryz.func157 qL
theorem an8:aa S aeM:=aa.s1 af an7 ak Tryz.func100 oQ
theorem an9:aa S aeN:=aa.s5 af an8 ak Tryz.func164 Ml
theorem aoa:aa S aeO:=aa.s4 af an9 ak Tryz.func108 Gc
theorem aob:aa S aeP:=aa.s1 af aoa ak Tryz.func105 Dn
theorem aoc:aa S aeQ:=aa.s1 af aob ak Tryz.func98 qN
theorem aod:aa S aeR:=aa.s1 af aoc ak Tryz.func96 zG
theorem aoe:aa S aeS:=aa.s3 af aod ak Tryz.func117 wY
theorem aof:aa S aeT:=aa.s1 af aoe ak Tryz.func66 zA
theorem aog:aa S aeU:=aa.s1 af aof ak Tryz.func106 Dt
theorem aoh:aa S aeV:=aa.s1 af aog ak Tryz.func50 Dr
theorem aoi:aa S aeW:=aa.s1 af aoh ak Tryz.func48 Gb
theorem aoj:aa S aeX:=aa.s1 af aoi ak Tryz.func38 zH
theorem aok:aa S aeY:=aa.s2 af aoj ak Tryz.func67 jc
theorem aol:aa S aeZ:=aa.s2 af aok ak Tryz.func126 Di
theorem aom:aa S ae0:=aa.s3 af aol ak Tryz.func181 sj
theorem aon:aa S ae1:=aa.s3 af aom ak Tryz.func225 Dh
theorem aoo:aa S ae2:=aa.s4 af aon ak Tryz.func180 si
theorem aop:aa S ae3:=aa.s2 af aoo ak Tryz.func222 sg
theorem aoq:aa S ae4:=aa.s2 af aop ak Tryz.func224 qv
theorem aor:aa S ae5:=aa.s3 af aoq ak Tryz.func220 zu
theorem aos:aa S ae6:=aa.s2 af aor ak Tryz.func179 wQ
theorem aot:aa S ae7:=aa.s2 af aos ak Tryz.func125 Dk
theorem aou:aa S ae8:=aa.s2 af aot ak Tryz.func124 Bz
theorem aov:aa S ae9:=aa.s2 af aou ak Tryz.func71 BB
theorem aow:aa S afa:=aa.s1 af aov ak Tryz.func177 F7
theorem aox:aa S afb:=aa.s1 af aow ak Tryz.func122 Ix
theorem aoy:aa S afc:=aa.s2 af aox ak Tryz.func123 wO
theorem aoz:aa S afd:=aa.s2 af aoy ak Tryz.func176 uf
theorem aoA:aa S afe:=aa.s2 af aoz ak Tryz.func121 zt
theorem aoB:aa S aff:=aa.s2 af aoA ak Tryz.func70 sM
theorem aoC:aa S afg:=aa.s1 af aoB ak Tryz.func72 Bu
theorem aoD:aa S afh:=aa.s3 af aoC ak Tryz.func24 vg
theorem aoE:aa S afi:=aa.s3 af aoD ak Tryz.func69 vh
theorem aoF:aa S afj:=aa.s1 af aoE ak Tryz.func215 mw
theorem aoG:aa S afk:=aa.s1 af aoF ak Tryz.func216 gX
theorem aoH:aa S afl:=aa.s2 af aoG ak Tryz.func217 jQ
theorem aoI:aa S afm:=aa.s1 af aoH ak Tryz.func174 jR
theorem aoJ:aa S afn:=aa.s1 af aoI ak Tryz.func172 gf
theorem aoK:aa S afo:=aa.s1 af aoJ ak Tryz.func173 lD
theorem aoL:aa S afp:=aa.s1 af aoK ak Tryz.func218 jP
theorem aoM:aa S afq:=aa.s2 af aoL ak Tryz.func219 lB
theorem aoN:aa S afr:=aa.s1 af aoM ak Tryz.func175 ky
theorem aoO:aa S afs:=aa.s1 af aoN ak Tryz.func212 iM
theorem aoP:aa S aft:=aa.s1 af aoO ak Tryz.func211 gb
theorem aoQ:aa S afu:=aa.s1 af aoP ak Tryz.func240 kv
theorem aoR:aa S afv:=aa.s1 af aoQ ak Tryz.func214 gQ
theorem aoS:aa S afw:=aa.s1 af aoR ak Tryz.func213 lC
theorem aoT:aa S afx:=aa.s1 af aoS ak Tryz.func171 my
theorem aoU:aa S afy:=aa.s1 af aoT ak Tryz.func119 kz
theorem aoV:aa S afz:=aa.s3 af aoU ak Tryz.func68 zr
theorem aoW:aa S UX:=aa.s3 af aoV ak Tryz.func23 qd
theorem aoX:aa S U1:=aa.step af aoW ak Tryz.func47 (by kernel_rfl) (fun ps r h=>by
 unfold jn at h;split at h
 ·rw[eq_47];exact h
 ·cases h)
theorem aoY:aa S U2:=aa.step af aoX ak Tryz.func65 (by kernel_rfl) (fun ps r h=>by
 unfold iB at h;split at h
 ·rw[eq_65];exact h
 ·cases h)
theorem aoZ:aa S afA:=aa.step af aoY ak Tryz.func49 (by kernel_rfl) (fun ps r h=>by
 unfold jo at h;split at h
 ·rw[eq_49];exact h
 ·cases h)
theorem ao0:aa S UY:=aa.s1 af aoZ ak Tryz.func52 xo
theorem ao1:aa S afB:=aa.step af ao0 ak Tryz.func51 (by kernel_rfl) (fun ps r h=>by
 unfold jq at h;split at h
 ·rw[eq_51];exact h
 ·cases h)
theorem ao2:aa S U3:=aa.s2 af ao1 ak Tryz.func54 iP
theorem ao3:aa S afC:=aa.step af ao2 ak Tryz.func53 (by kernel_rfl) (fun ps r h=>by
 unfold jr at h;split at h
 ·rw[eq_53];exact h
 ·cases h)
theorem ao4:aa S UZ:=aa.s4 af ao3 ak Tryz.func56 Gm
theorem ao5:aa S afD:=aa.step af ao4 ak Tryz.func55 (by kernel_rfl) (fun ps r h=>by
 unfold jt at h;split at h
 ·rw[eq_55];exact h
 ·cases h)
theorem ao6:aa S afE:=aa.s1 af ao5 ak Tryz.func111 uw
theorem aj8:aa S Xz:=aa.s1 af ao6 ak Tryz.func165 xp
theorem aj9:aa S XA:=aa.s2 af aj8 ak Tryz.func110 xq
theorem aka:aa S PU:=aa.s2 af aj9 ak Tryz.func58 ux
theorem akb:aa S XB:=aa.step af aka ak Tryz.func57 (by kernel_rfl) (fun ps r h=>by
 unfold ju at h;split at h
 ·rw[eq_57];exact h
 ·cases h)
theorem akc:aa S XC:=aa.s2 af akb ak Tryz.func113 uy
theorem akd:aa S XD:=aa.s2 af akc ak Tryz.func210 BM
theorem ake:aa S XE:=aa.s2 af akd ak Tryz.func167 zJ
theorem akf:aa S PX:=aa.s3 af ake ak Tryz.func114 zK
theorem akg:aa S XF:=aa.step af akf ak Tryz.func166 (by kernel_rfl) (fun ps r h=>by
 unfold gu at h;split at h
 ·rw[eq_166];exact h
 ·cases h)
theorem akh:aa S XG:=aa.s4 af akg ak Tryz.func112 BN
theorem aki:aa S PW:=aa.s3 af akh ak Tryz.func60 zL
theorem akj:aa S XH:=aa.step af aki ak Tryz.func59 (by kernel_rfl) (fun ps r h=>by
 unfold jw at h;split at h
 ·rw[eq_59];exact h
 ·cases h)
theorem akk:aa S XI:=aa.s2 af akj ak Tryz.func168 qY
theorem akl:aa S XJ:=aa.s2 af akk ak Tryz.func169 sq
theorem akm:aa S XK:=aa.s3 af akl ak Tryz.func115 zM
theorem akn:aa S PY:=aa.s4 af akm ak Tryz.func62 jY
theorem ako:aa S XL:=aa.step af akn ak Tryz.func61 (by kernel_rfl) (fun ps r h=>by
 unfold jx at h;split at h
 ·rw[eq_61];exact h
 ·cases h)
theorem akp:aa S PS:=aa.s2 af ako ak Tryz.func64 xr
theorem akq:aa S XM:=aa.step af akp ak Tryz.func63 (by kernel_rfl) (fun ps r h=>by
 unfold jy at h;split at h
 ·rw[eq_63];exact h
 ·cases h)
theorem akr:aa S XN:=aa.s1 af akq ak Tryz.func22 uz
theorem aks:aa S XO:=aa.s4 af akr ak Tryz.func10 sK
theorem akt:aa S XP:=aa.s1 af aks ak Tryz.func101 DM
theorem aku:aa S XQ:=aa.s1 af akt ak Tryz.func40 B6
theorem akv:aa S XR:=aa.s3 af aku ak Tryz.func39 DN
theorem akw:aa S XS:=aa.s2 af akv ak Tryz.func102 B7
theorem akx:aa S XT:=aa.s3 af akw ak Tryz.func41 AF
theorem aky:aa S XU:=aa.s3 af akx ak Tryz.func15 Bp
theorem akz:aa S PZ:=aa.s5 af aky ak Tryz.func13 wJ
theorem akA:aa S P1:=aa.step af akz ak Tryz.func19 (by kernel_rfl) (fun ps r h=>by
 unfold lU at h;split at h
 ·rw[eq_19];exact h
 ·cases h)
theorem akB:aa S PT:=aa.step af akA ak Tryz.func20 (by kernel_rfl) (fun ps r h=>by
 unfold uA at h;split at h
 ·rw[eq_20];exact h
 ·cases h)
theorem akC:aa S XV:=aa.step af akB ak Tryz.func21 (by kernel_rfl) (fun ps r h=>by
 unfold xt at h;split at h
 ·rw[eq_21];exact h
 ·cases h)
theorem akD:aa S P0:=aa.s2 af akC ak Tryz.func12 FZ
theorem akE:aa S XW:=aa.step af akD ak Tryz.func9 (by kernel_rfl) (fun ps r h=>by
 unfold cC at h;split at h
 ·rw[eq_9];exact h
 ·cases h)
theorem akF:aa S XX:=aa.s2 af akE ak Tryz.func186 Gn
theorem akG:aa S XY:=aa.s1 af akF ak Tryz.func185 sr
theorem akH:aa S XZ:=aa.s1 af akG ak Tryz.func132 DO
theorem akI:aa S X0:=aa.s1 af akH ak Tryz.func152 yM
theorem akJ:aa S X1:=aa.s1 af akI ak Tryz.func189 DP
theorem akK:aa S X2:=aa.s1 af akJ ak Tryz.func134 DQ
theorem akL:aa S X3:=aa.s2 af akK ak Tryz.func135 lG
theorem akM:aa S X4:=aa.s1 af akL ak Tryz.func187 Gp
theorem akN:aa S X5:=aa.s1 af akM ak Tryz.func188 Gq
theorem akO:aa S X6:=aa.s1 af akN ak Tryz.func133 DR
theorem akP:aa S X7:=aa.s2 af akO ak Tryz.func226 Gs
theorem akQ:aa S X8:=aa.s2 af akP ak Tryz.func227 DS
theorem akR:aa S X9:=aa.s5 af akQ ak Tryz.func190 IU
theorem akS:aa S Ya:=aa.s4 af akR ak Tryz.func136 DT
theorem akT:aa S Yb:=aa.s1 af akS ak Tryz.func45 DU
theorem akU:aa S Yc:=aa.s1 af akT ak Tryz.func46 DV
theorem akV:aa S Yd:=aa.s3 af akU ak Tryz.func203 DW
theorem akW:aa S Ye:=aa.s2 af akV ak Tryz.func154 yN
theorem akX:aa S Yf:=aa.s1 af akW ak Tryz.func151 vu
theorem akY:aa S Yg:=aa.s2 af akX ak Tryz.func191 Gt
theorem akZ:aa S Yh:=aa.s2 af akY ak Tryz.func137 DX
theorem ak0:aa S Yi:=aa.s2 af akZ ak Tryz.func230 IV
theorem ak1:aa S Yj:=aa.s2 af ak0 ak Tryz.func241 Gu
theorem ak2:aa S Yk:=aa.s2 af ak1 ak Tryz.func231 DY
theorem ak3:aa S Yl:=aa.s2 af ak2 ak Tryz.func228 MB
theorem ak4:aa S Ym:=aa.s2 af ak3 ak Tryz.func229 xv
theorem ak5:aa S Yn:=aa.s4 af ak4 ak Tryz.func192 IW
theorem ak6:aa S Yo:=aa.s3 af ak5 ak Tryz.func138 DZ
theorem ak7:aa S Yp:=aa.s3 af ak6 ak Tryz.func232 D2
theorem ak8:aa S Yq:=aa.s5 af ak7 ak Tryz.func193 uB
theorem ak9:aa S Yr:=aa.s4 af ak8 ak Tryz.func139 lH
theorem ala:aa S Ys:=aa.s2 af ak9 ak Tryz.func194 D3
theorem alb:aa S Yt:=aa.s2 af ala ak Tryz.func140 D4
theorem alc:aa S Yu:=aa.s3 af alb ak Tryz.func195 BO
theorem ald:aa S Yv:=aa.s1 af alc ak Tryz.func196 D5
theorem ale:aa S Yw:=aa.s1 af ald ak Tryz.func141 D6
theorem alf:aa S Yx:=aa.s2 af ale ak Tryz.func81 Gv
theorem alg:aa S Yy:=aa.s1 af alf ak Tryz.func31 D7
theorem alh:aa S Yz:=aa.s2 af alg ak Tryz.func87 Bx
theorem ali:aa S YA:=aa.s1 af alh ak Tryz.func201 F9
theorem alj:aa S YB:=aa.s3 af ali ak Tryz.func202 vl
theorem alk:aa S YC:=aa.s4 af alj ak Tryz.func149 Bw
theorem alm:aa S YD:=aa.s4 af alk ak Tryz.func150 qy
theorem aln:aa S YE:=aa.s2 af alm ak Tryz.func86 Dm
theorem alo:aa S YF:=aa.s1 af aln ak Tryz.func205 zx
theorem alp:aa S YG:=aa.s3 af alo ak Tryz.func206 Mi
theorem alq:aa S YH:=aa.s1 af alp ak Tryz.func163 Du
theorem alr:aa S YI:=aa.s4 af alq ak Tryz.func208 DC
theorem als:aa S YJ:=aa.s2 af alr ak Tryz.func161 Gh
theorem alu:aa S YK:=aa.s3 af als ak Tryz.func239 xm
theorem alv:aa S YM:=aa.s2 af alu ak Tryz.func209 BJ
theorem alw:aa S YN:=aa.s1 af alv ak Tryz.func162 Dz
theorem alx:aa S YO:=aa.s1 af alw ak Tryz.func159 BD
theorem aly:aa S YP:=aa.s4 af alx ak Tryz.func207 Dy
theorem alz:aa S YQ:=aa.s2 af aly ak Tryz.func160 IH
theorem alA:aa S YR:=aa.s1 af alz ak Tryz.func158 Dq
theorem alC:aa S YS:=aa.s1 af alA ak Tryz.func103 DE
theorem alD:aa S YT:=aa.s1 af alC ak Tryz.func42 C8
theorem alE:aa S YU:=aa.s2 af alD ak Tryz.func147 Bq
theorem alF:aa S YV:=aa.s2 af alE ak Tryz.func148 De
theorem alG:aa S YW:=aa.s2 af alF ak Tryz.func85 Df
theorem alH:aa S YX:=aa.s1 af alG ak Tryz.func88 F6
theorem alI:aa S YY:=aa.s3 af alH ak Tryz.func33 Ga
theorem alJ:aa S YZ:=aa.s2 af alI ak Tryz.func34 pX
theorem alK:aa S Y0:=aa.s3 af alJ ak Tryz.func197 LZ
theorem alL:aa S Y1:=aa.s2 af alK ak Tryz.func142 rZ
theorem alM:aa S Y2:=aa.s2 af alL ak Tryz.func82 sa
theorem alN:aa S Y3:=aa.s3 af alM ak Tryz.func146 F3
theorem alO:aa S Y4:=aa.s3 af alN ak Tryz.func144 Db
theorem alP:aa S Y5:=aa.s4 af alO ak Tryz.func200 Br
theorem alQ:aa S Y6:=aa.s3 af alP ak Tryz.func145 Bs
theorem alR:aa S Y7:=aa.s3 af alQ ak Tryz.func198 F5
theorem alS:aa S Y8:=aa.s3 af alR ak Tryz.func199 F4
theorem alT:aa S Y9:=aa.s3 af alS ak Tryz.func143 wM
theorem alU:aa S Za:=aa.s4 af alT ak Tryz.func83 L7
theorem alV:aa S Zb:=aa.s3 af alU ak Tryz.func84 ID
theorem alW:aa S Zc:=aa.s3 af alV ak Tryz.func32 Dg
theorem alX:aa S Zd:=aa.s1 af alW ak Tryz.func153 zN
theorem alY:aa S Ze:=aa.s4 af alX ak Tryz.func93 BP
theorem alZ:aa S Zf:=aa.s4 af alY ak Tryz.func89 BQ
theorem al0:aa S Zg:=aa.s2 af alZ ak Tryz.func91 uC
theorem al1:aa S Zh:=aa.s2 af al0 ak Tryz.func90 xw
theorem al2:aa S Zi:=aa.s2 af al1 ak Tryz.func35 CY
theorem al3:aa S Zj:=aa.s3 af al2 ak Tryz.func94 FU
theorem al4:aa S Zk:=aa.s4 af al3 ak Tryz.func95 MC
theorem al5:aa S Zl:=aa.s3 af al4 ak Tryz.func92 MD
theorem al6:aa S Zm:=aa.s5 af al5 ak Tryz.func36 C4
theorem al7:aa S Zn:=aa.s2 af al6 ak Tryz.func37 wH
theorem al8:aa S Zo:=aa.s4 af al7 ak Tryz.func11 C5
theorem al9:aa S Zp:=aa.s2 af al8 ak Tryz.func18 F0
theorem ama:aa S Zq:=aa.s3 af al9 ak Tryz.func8 C6
theorem amb:aa S Zr:=aa.s1 af ama ak Tryz.func3 xx
end Go.Proofs.YtmbihgjlollbeaaGreat
