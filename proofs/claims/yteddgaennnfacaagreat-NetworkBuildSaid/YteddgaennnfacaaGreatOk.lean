import Derived.Test.YteddgaennnfacaaGreatEq1
import Derived.Test.YteddgaennnfacaaGreatLays
import Derived.Test.YteddgaennnfacaaGreatAbSortKOk
namespace Go.Proofs.YteddgaennnfacaaGreat
open Go.Ab
set_option maxRecDepth 1000000
theorem MQ:mK S0:=⟨by kernel_rfl,(fun g h hh=>by cases hh),by kernel_rfl⟩
theorem ag1:aa S0 adq:=aa.nil S0
theorem RF:fx S0 AB:=fx.nil S0
theorem ag2:aa S0 adr:=aa.s2 MQ ag1 RF Tryz.func124 sj
theorem ag4:aa S0 ads:=aa.s1 MQ ag2 RF Tryz.func123 Dm
theorem adt:aa S0 SN:=aa.s2 MQ ag4 RF Tryz.func122 nb
theorem aeA(g:Nat)(M:List PV→Option PV)(h:clo g=some M):Ad S.P S.aM g M:=by
 unfold clo at h;cases e:Nat.beq g 122 with
 |true=>rw[e]at h;have:=acA e;subst this;cases h;exact adt (122,cw) (Ay (by kernel_rfl))
 |false=>rw[e]at h;cases h
theorem ak:mK S:=⟨by kernel_rfl,(fun g h hh R args f m k r hr=>by
 have hh:(bif Nat.beq g 121 then some (BV 4 clo)else none)=some h:=hh;cases e:Nat.beq g 121 with
 |true=>rw[e]at hh;have:=acA e;subst this;cases hh;exact Mh abT rfl ⟨Tryz.f121,_,Tryz.func121,rfl,by kernel_rfl⟩ Tryz.isAgg65 Tryz.sizeOf65 aeA hr
 |false=>rw[e]at hh;cases hh),by kernel_rfl⟩
theorem aj3:aa S SN:=fun x hx=>adt x hx
theorem ff:fx S AB:=fx.nil S
theorem aj4:aa S adu:=aa.step ak aj3 ff Tryz.func15 (by kernel_rfl) (fun ps r h=>by
 unfold jD at h;split at h
 ·rw[eq_15];exact h
 ·cases h)
theorem aj5:aa S adv:=aa.s3 ak aj4 ff Tryz.func92 wV
theorem aj6:aa S adw:=aa.s3 ak aj5 ff Tryz.func35 Jh
theorem aj7:aa S adx:=aa.s2 ak aj6 ff Tryz.func91 uE
theorem aj8:aa S Ym:=aa.s1 ak aj7 ff Tryz.func37 mT
theorem aj9:aa S ady:=aa.step ak aj8 ff Tryz.func192 (by kernel_rfl) (fun ps r h=>by
 unfold dH at h;split at h
 ·rw[eq_192];exact h
 ·cases h)
theorem ag5:aa S Ze:=aa.s3 ak aj9 ff Tryz.func174 uK
theorem ag6:aa S QW:=aa.s2 ak ag5 ff Tryz.func194 wX
theorem ag7:aa S Zf:=aa.step ak ag6 ff Tryz.func202 (by kernel_rfl) (fun ps r h=>by
 unfold aS at h;split at h
 ·rw[eq_202];exact h
 ·cases h)
theorem ag8:aa S Zg:=aa.s3 ak ag7 ff Tryz.func177 si
theorem ag9:aa S Zh:=aa.s1 ak ag8 ff Tryz.func176 qk
theorem aha:aa S Zi:=aa.s2 ak ag9 ff Tryz.func175 mZ
theorem ahb:aa S Zj:=aa.s2 ak aha ff Tryz.func158 yW
theorem ahc:aa S Zk:=aa.s3 ak ahb ff Tryz.func119 na
theorem ahd:aa S Zl:=aa.s2 ak ahc ff Tryz.func67 qm
theorem ahe:aa S Zm:=aa.s2 ak ahd ff Tryz.func114 uF
theorem ahf:aa S Zn:=aa.s2 ak ahe ff Tryz.func94 oH
theorem ahg:aa S Zo:=aa.s1 ak ahf ff Tryz.func39 mS
theorem ahh:aa S Zp:=aa.s5 ak ahg ff Tryz.func131 I4
theorem ahi:aa S Zq:=aa.s4 ak ahh ff Tryz.func90 Dd
theorem ahj:aa S Zr:=aa.s1 ak ahi ff Tryz.func88 AN
theorem ahk:aa S Zs:=aa.s1 ak ahj ff Tryz.func36 oJ
theorem ahl:aa S Zt:=aa.s1 ak ahk ff Tryz.func34 wW
theorem ahm:aa S Zu:=aa.s3 ak ahl ff Tryz.func93 uB
theorem ahn:aa S Zv:=aa.s1 ak ahm ff Tryz.func38 wQ
theorem aho:aa S Zw:=aa.s1 ak ahn ff Tryz.func89 AR
theorem ahp:aa S Zx:=aa.s1 ak aho ff Tryz.func33 AQ
theorem ahq:aa S Zy:=aa.s1 ak ahp ff Tryz.func32 Dc
theorem ahr:aa S Zz:=aa.s1 ak ahq ff Tryz.func16 qM
theorem ahs:aa S QK:=aa.s1 ak ahr ff Tryz.func14 mn
theorem aht:aa S ZA:=aa.step ak ahs ff Tryz.func5 (by kernel_rfl) (fun ps r h=>by
 unfold bX at h;split at h
 ·rw[eq_5];exact h
 ·cases h)
theorem ahu:aa S ZB:=aa.s2 ak aht ff Tryz.func61 uN
theorem GP:aa S yI:=aa.s2 ak ahu ff Tryz.func23 ux
theorem ahv:fx S QL:=fx.step ak GP ff Tryz.func73 (by kernel_rfl) (fun ps r h=>by
 unfold eX at h;split at h
 ·rw[eq_73];exact h
 ·cases h)
theorem ahw:fx S QR:=fx.step ak GP ahv Tryz.func72 (by kernel_rfl) (fun ps r h=>by
 unfold dC at h;split at h
 ·rw[eq_72];exact h
 ·cases h)
theorem ahx:fx S QX:=fx.step ak GP ahw Tryz.func71 (by kernel_rfl) (fun ps r h=>by
 unfold eW at h;split at h
 ·rw[eq_71];exact h
 ·cases h)
theorem ahy:fx S QI:=fx.step ak GP ahx Tryz.func74 (by kernel_rfl) (fun ps r h=>by
 unfold dN at h;split at h
 ·rw[eq_74];exact h
 ·cases h)
theorem ahz:fx S QM:=fx.step ak GP ahy Tryz.func69 (by kernel_rfl) (fun ps r h=>by
 unfold eA at h;split at h
 ·rw[eq_69];exact h
 ·cases h)
theorem ahA:fx S QS:=fx.step ak GP ahz Tryz.func70 (by kernel_rfl) (fun ps r h=>by
 unfold fA at h;split at h
 ·rw[eq_70];exact h
 ·cases h)
theorem aH:fx S rZ:=fx.step ak GP ahA Tryz.func68 (by kernel_rfl) (fun ps r h=>by
 unfold eV at h;split at h
 ·rw[eq_68];exact h
 ·cases h)
theorem ahB:aa S ZC:=aa.s1 ak GP aH Tryz.func24 wL
theorem ahC:aa S ZD:=aa.s1 ak ahB aH Tryz.func63 yY
theorem ahD:aa S ZE:=aa.s1 ak ahC aH Tryz.func190 yZ
theorem ahE:aa S ZF:=aa.s4 ak ahD aH Tryz.func170 sk
theorem ahF:aa S ZG:=aa.s4 ak ahE aH Tryz.func153 sl
theorem ahG:aa S ZH:=aa.s2 ak ahF aH Tryz.func154 Dn
theorem ahH:aa S ZI:=aa.s1 ak ahG aH Tryz.func188 oV
theorem ahI:aa S ZJ:=aa.s3 ak ahH aH Tryz.func189 uO
theorem ahJ:aa S ZK:=aa.s3 ak ahI aH Tryz.func169 sn
theorem ahK:aa S ZL:=aa.s2 ak ahJ aH Tryz.func146 mw
theorem ahL:aa S ZM:=aa.s1 ak ahK aH Tryz.func107 so
theorem ahM:aa S ZN:=aa.s2 ak ahL aH Tryz.func155 lG
theorem ahN:aa S ZO:=aa.s2 ak ahM aH Tryz.func149 nc
theorem ahO:aa S ZP:=aa.s2 ak ahN aH Tryz.func173 Dp
theorem ahP:aa S ZQ:=aa.s2 ak ahO aH Tryz.func157 FK
theorem ahQ:aa S ZR:=aa.s2 ak ahP aH Tryz.func117 wZ
theorem ahR:aa S ZS:=aa.s2 ak ahQ aH Tryz.func65 Dq
theorem ahS:aa S ZT:=aa.s2 ak ahR aH Tryz.func151 oW
theorem ahT:aa S ZU:=aa.s2 ak ahS aH Tryz.func152 qn
theorem ahU:aa S ZV:=aa.s3 ak ahT aH Tryz.func113 xc
theorem ahV:aa S ZW:=aa.s2 ak ahU aH Tryz.func118 y7
theorem ahW:aa S QN:=aa.s4 ak ahV aH Tryz.func66 MR
theorem ahX:aa S QT:=aa.step ak ahW aH Tryz.func46 (by kernel_rfl) (fun ps r h=>by
 unfold ig at h;split at h
 ·rw[eq_46];exact h
 ·cases h)
theorem ahY:aa S QY:=aa.step ak ahX aH Tryz.func62 (by kernel_rfl) (fun ps r h=>by
 unfold gF at h;split at h
 ·rw[eq_62];exact h
 ·cases h)
theorem ahZ:aa S ZX:=aa.step ak ahY aH Tryz.func47 (by kernel_rfl) (fun ps r h=>by
 unfold ij at h;split at h
 ·rw[eq_47];exact h
 ·cases h)
theorem ah0:aa S QO:=aa.s1 ak ahZ aH Tryz.func49 uP
theorem ah1:aa S ZY:=aa.step ak ah0 aH Tryz.func48 (by kernel_rfl) (fun ps r h=>by
 unfold il at h;split at h
 ·rw[eq_48];exact h
 ·cases h)
theorem ah2:aa S QZ:=aa.s2 ak ah1 aH Tryz.func51 gP
theorem ah3:aa S ZZ:=aa.step ak ah2 aH Tryz.func50 (by kernel_rfl) (fun ps r h=>by
 unfold im at h;split at h
 ·rw[eq_50];exact h
 ·cases h)
theorem ah4:aa S QP:=aa.s4 ak ah3 aH Tryz.func53 Dr
theorem ah5:aa S Z0:=aa.step ak ah4 aH Tryz.func52 (by kernel_rfl) (fun ps r h=>by
 unfold iq at h;split at h
 ·rw[eq_52];exact h
 ·cases h)
theorem ah6:aa S Z1:=aa.s1 ak ah5 aH Tryz.func109 sq
theorem ah7:aa S Z2:=aa.s1 ak ah6 aH Tryz.func147 uQ
theorem ah8:aa S Z3:=aa.s2 ak ah7 aH Tryz.func108 uR
theorem ah9:aa S QU:=aa.s2 ak ah8 aH Tryz.func55 sr
theorem aia:aa S Z4:=aa.step ak ah9 aH Tryz.func54 (by kernel_rfl) (fun ps r h=>by
 unfold ir at h;split at h
 ·rw[eq_54];exact h
 ·cases h)
theorem aib:aa S Z5:=aa.s2 ak aia aH Tryz.func111 su
theorem aic:aa S Z6:=aa.s2 ak aib aH Tryz.func150 xd
theorem aid:aa S QV:=aa.s3 ak aic aH Tryz.func112 xe
theorem aie:aa S Z7:=aa.step ak aid aH Tryz.func148 (by kernel_rfl) (fun ps r h=>by
 unfold fQ at h;split at h
 ·rw[eq_148];exact h
 ·cases h)
theorem aif:aa S Z8:=aa.s4 ak aie aH Tryz.func110 y8
theorem aih:aa S QQ:=aa.s3 ak aif aH Tryz.func57 xf
theorem aii:aa S Z9:=aa.step ak aih aH Tryz.func56 (by kernel_rfl) (fun ps r h=>by
 unfold iu at h;split at h
 ·rw[eq_56];exact h
 ·cases h)
theorem aij:aa S Q0:=aa.s4 ak aii aH Tryz.func59 iR
theorem aik:aa S QJ:=aa.step ak aij aH Tryz.func58 (by kernel_rfl) (fun ps r h=>by
 unfold iw at h;split at h
 ·rw[eq_58];exact h
 ·cases h)
theorem ail:aa S aaa:=aa.step ak aik aH Tryz.func60 (by kernel_rfl) (fun ps r h=>by
 unfold iy at h;split at h
 ·rw[eq_60];exact h
 ·cases h)
theorem aim:aa S aab:=aa.s1 ak ail aH Tryz.func20 sw
theorem ain:aa S aac:=aa.s2 ak aim aH Tryz.func22 Dt
theorem aio:aa S aad:=aa.s3 ak ain aH Tryz.func64 FL
theorem aip:aa S aae:=aa.s3 ak aio aH Tryz.func21 vJ
theorem aiq:aa S aaf:=aa.s3 ak aip aH Tryz.func7 wM
theorem air:aa S aag:=aa.s2 ak aiq aH Tryz.func79 A7
theorem ais:aa S aah:=aa.s2 ak air aH Tryz.func27 A8
theorem ait:aa S aai:=aa.s3 ak ais aH Tryz.func80 AG
theorem aiu:aa S aaj:=aa.s2 ak ait aH Tryz.func28 wK
theorem aiv:aa S aak:=aa.s2 ak aiu aH Tryz.func9 AL
theorem aiw:aa S aal:=aa.s1 ak aiv aH Tryz.func13 A9
theorem aix:aa S aam:=aa.s1 ak aiw aH Tryz.func12 FM
theorem aiy:aa S aan:=aa.s1 ak aix aH Tryz.func4 Ba
theorem aiz:aa S aao:=aa.s2 ak aiy aH Tryz.func133 Du
theorem aiA:aa S aap:=aa.s1 ak aiz aH Tryz.func132 qo
theorem aiB:aa S aaq:=aa.s1 ak aiA aH Tryz.func95 Bb
theorem aiC:aa S aar:=aa.s1 ak aiB aH Tryz.func137 vR
theorem aeB:aa S Te:=aa.s1 ak aiC aH Tryz.func136 Bc
theorem aeC:aa S Tf:=aa.s1 ak aeB aH Tryz.func97 Bd
theorem aeD:aa S Tg:=aa.s2 ak aeC aH Tryz.func98 jR
theorem aeE:aa S Th:=aa.s1 ak aeD aH Tryz.func134 Dv
theorem aeF:aa S Ti:=aa.s1 ak aeE aH Tryz.func135 Dw
theorem aeG:aa S Tj:=aa.s1 ak aeF aH Tryz.func96 Be
theorem aeH:aa S Tk:=aa.s2 ak aeG aH Tryz.func163 Dx
theorem aeI:aa S Tl:=aa.s2 ak aeH aH Tryz.func164 Bf
theorem aeJ:aa S Tm:=aa.s5 ak aeI aH Tryz.func138 FN
theorem aeK:aa S Tn:=aa.s4 ak aeJ aH Tryz.func99 Bg
theorem aeL:aa S To:=aa.s1 ak aeK aH Tryz.func140 Bh
theorem aeM:aa S Tp:=aa.s3 ak aeL aH Tryz.func106 Bi
theorem aeN:aa S Tr:=aa.s2 ak aeM aH Tryz.func45 vS
theorem aeO:aa S Ts:=aa.s1 ak aeN aH Tryz.func105 td
theorem aeP:aa S Tu:=aa.s2 ak aeO aH Tryz.func139 Dy
theorem aeQ:aa S Tv:=aa.s2 ak aeP aH Tryz.func100 Bj
theorem aeR:aa S Tw:=aa.s2 ak aeQ aH Tryz.func167 FO
theorem aeS:aa S Tx:=aa.s2 ak aeR aH Tryz.func76 Dz
theorem aeT:aa S Ty:=aa.s2 ak aeS aH Tryz.func168 Bk
theorem aeU:aa S Tz:=aa.s2 ak aeT aH Tryz.func165 Ji
theorem aeV:aa S TA:=aa.s2 ak aeU aH Tryz.func166 uS
theorem aeW:aa S TB:=aa.s4 ak aeV aH Tryz.func141 FP
theorem aeX:aa S TC:=aa.s3 ak aeW aH Tryz.func101 Bl
theorem aeY:aa S TD:=aa.s3 ak aeX aH Tryz.func78 Bm
theorem aeZ:aa S TE:=aa.s5 ak aeY aH Tryz.func142 sx
theorem ae0:aa S TF:=aa.s4 ak aeZ aH Tryz.func102 jS
theorem ae1:aa S TG:=aa.s3 ak ae0 aH Tryz.func143 y9
theorem ae2:aa S TH:=aa.s1 ak ae1 aH Tryz.func144 Bn
theorem ae3:aa S TI:=aa.s1 ak ae2 aH Tryz.func103 Bo
theorem ae4:aa S TJ:=aa.s2 ak ae3 aH Tryz.func40 DA
theorem ae5:aa S TK:=aa.s1 ak ae4 aH Tryz.func17 Bp
theorem ae6:aa S TL:=aa.s3 ak ae5 aH Tryz.func77 DB
theorem ae7:aa S TM:=aa.s3 ak ae6 aH Tryz.func26 DC
theorem ae8:aa S TN:=aa.s1 ak ae7 aH Tryz.func145 xg
theorem ae9:aa S TO:=aa.s4 ak ae8 aH Tryz.func104 za
theorem afa:aa S TP:=aa.s4 ak ae9 aH Tryz.func41 zb
theorem afb:aa S TQ:=aa.s2 ak afa aH Tryz.func44 sy
theorem afc:aa S TR:=aa.s2 ak afb aH Tryz.func42 uT
theorem afd:aa S TS:=aa.s5 ak afc aH Tryz.func43 FQ
theorem afe:aa S TT:=aa.s2 ak afd aH Tryz.func19 FT
theorem aff:aa S TU:=aa.s2 ak afe aH Tryz.func125 sA
theorem afg:aa S TV:=aa.s2 ak aff aH Tryz.func75 xh
theorem afh:aa S TW:=aa.s1 ak afg aH Tryz.func18 uU
theorem afi:aa S TX:=aa.s2 ak afh aH Tryz.func25 Bq
theorem afj:aa S TY:=aa.s2 ak afi aH Tryz.func8 Br
theorem afk:aa S TZ:=aa.s3 ak afj aH Tryz.func6 zd
theorem afl:aa S T1:=aa.s2 ak afk aH Tryz.func30 sg
theorem afm:aa S T2:=aa.s2 ak afl aH Tryz.func81 sf
theorem afn:aa S T3:=aa.s2 ak afm aH Tryz.func29 uI
theorem afo:aa S T4:=aa.s2 ak afn aH Tryz.func10 A4
theorem afp:aa S T5:=aa.s1 ak afo aH Tryz.func126 wN
theorem afq:aa S T6:=aa.s3 ak afp aH Tryz.func127 I0
theorem afr:aa S T7:=aa.s1 ak afq aH Tryz.func87 AS
theorem afs:aa S T8:=aa.s4 ak afr aH Tryz.func129 AZ
theorem aft:aa S T9:=aa.s2 ak afs aH Tryz.func85 Di
theorem afu:aa S Ua:=aa.s3 ak aft aH Tryz.func162 uM
theorem afv:aa S Ub:=aa.s2 ak afu aH Tryz.func130 yX
theorem afw:aa S Uc:=aa.s1 ak afv aH Tryz.func86 AW
theorem afx:aa S Ud:=aa.s1 ak afw aH Tryz.func83 yS
theorem afy:aa S Ue:=aa.s4 ak afx aH Tryz.func128 AV
theorem afz:aa S Uf:=aa.s2 ak afy aH Tryz.func84 FC
theorem afA:aa S Ug:=aa.s1 ak afz aH Tryz.func82 AP
theorem afB:aa S Uh:=aa.s1 ak afA aH Tryz.func31 A1
theorem afC:aa S Ui:=aa.s1 ak afB aH Tryz.func11 A2
theorem afD:aa S Uj:=aa.s3 ak afC aH Tryz.func3 mR
end Go.Proofs.YteddgaennnfacaaGreat
