import Derived.Test.YtanikidijjaohaaGreatEq1
import Derived.Test.YtanikidijjaohaaGreatEq2
import Derived.Test.YtanikidijjaohaaGreatEq3
import Derived.Test.YtanikidijjaohaaGreatEq4
import Derived.Test.YtanikidijjaohaaGreatLays
import Derived.Test.YtanikidijjaohaaGreatAbSortKOk
import Derived.Test.YtanikidijjaohaaGreatExt
namespace Go.Proofs.YtanikidijjaohaaGreat
open Go.Ab
theorem KD:xv S0:=⟨by kernel_rfl,(fun g h hh=>by cases hh),by kernel_rfl⟩
theorem aeX:aa S0 abE:=aa.nil S0
theorem Rl:tq S0 ar:=tq.nil S0
theorem aeY:aa S0 Xp:=fun x hx=>(ah4.1 hx).elim (fun e=>e▸aag) (fun h=>aeX x h)
theorem aeZ:aa S0 Xs:=aa.step KD aeY Rl Tryz.func120 (by kernel_rfl) (fun ps r h=>by
 unfold eh at h;split at h
 ·rw[eq_120];exact h
 ·cases h)
theorem ae0:aa S0 Xu:=aa.step KD aeZ Rl Tryz.func119 (by kernel_rfl) (fun ps r h=>by
 unfold og at h;split at h
 ·rw[eq_119];exact h
 ·cases h)
theorem abF:aa S0 SU:=aa.step KD ae0 Rl Tryz.func118 (by kernel_rfl) (fun ps r h=>by
 unfold ca at h;split at h
 ·rw[eq_118];exact h
 ·cases h)
theorem acV(g:Nat)(M:List PV→Option PV)(h:clo g=some M):vp S.P S.aM g M:=by
 unfold clo at h;cases e:Nat.beq g 118 with
 |true=>rw[e]at h;have:=No e;subst this;cases h;exact abF (118,ca) (xw (by kernel_rfl))
 |false=>rw[e]at h;cases h
theorem ao:xv S:=⟨by kernel_rfl,(fun g h hh R args f m k r hr=>by
 have hh:(bif Nat.beq g 117 then some (yS 4 clo)else none)=some h:=hh;cases e:Nat.beq g 117 with
 |true=>rw[e]at hh;have:=No e;subst this;cases hh;exact JE aaG rfl ⟨Tryz.f117,_,Tryz.func117,rfl,by kernel_rfl⟩ Tryz.isAgg98 Tryz.sizeOf98 acV hr
 |false=>rw[e]at hh;cases hh),by kernel_rfl⟩
theorem ahW:aa S SU:=fun x hx=>abF x hx
theorem aQ:tq S ar:=tq.nil S
theorem ahX:aa S Xq:=aa.step ao ahW aQ Tryz.func24 (by kernel_rfl) (fun ps r h=>by
 unfold bm at h;split at h
 ·rw[eq_24];exact h
 ·cases h)
theorem ahY:aa S Xt:=aa.step ao ahX aQ Tryz.func72 (by kernel_rfl) (fun ps r h=>by
 unfold jS at h;split at h
 ·rw[eq_72];exact h
 ·cases h)
theorem ahZ:aa S Xv:=aa.step ao ahY aQ Tryz.func41 (by kernel_rfl) (fun ps r h=>by
 unfold bh at h;split at h
 ·rw[eq_41];exact h
 ·cases h)
theorem ah0:aa S Xw:=aa.step ao ahZ aQ Tryz.func71 (by kernel_rfl) (fun ps r h=>by
 unfold cQ at h;split at h
 ·rw[eq_71];exact h
 ·cases h)
theorem ah1:aa S Xr:=aa.step ao ah0 aQ Tryz.func43 (by kernel_rfl) (fun ps r h=>by
 unfold dP at h;split at h
 ·rw[eq_43];exact h
 ·cases h)
theorem ae1:aa S Pt:=aa.step ao ah1 aQ Tryz.func154 (by kernel_rfl) (fun ps r h=>by
 unfold dF at h;split at h
 ·rw[eq_154];exact h
 ·cases h)
theorem ae2:aa S PQ:=aa.step ao ae1 aQ Tryz.func140 (by kernel_rfl) (fun ps r h=>by
 unfold jf at h;split at h
 ·rw[eq_140];exact h
 ·cases h)
theorem ae3:aa S Qe:=aa.step ao ae2 aQ Tryz.func156 (by kernel_rfl) (fun ps r h=>by
 unfold gN at h;split at h
 ·rw[eq_156];exact h
 ·cases h)
theorem ae4:aa S O6:=aa.step ao ae3 aQ Tryz.func164 (by kernel_rfl) (fun ps r h=>by
 unfold aR at h;split at h
 ·rw[eq_164];exact h
 ·cases h)
theorem ae5:aa S Pu:=aa.step ao ae4 aQ Tryz.func143 (by kernel_rfl) (fun ps r h=>by
 unfold fl at h;split at h
 ·rw[eq_143];exact h
 ·cases h)
theorem ae6:aa S PR:=aa.step ao ae5 aQ Tryz.func142 (by kernel_rfl) (fun ps r h=>by
 unfold gp at h;split at h
 ·rw[eq_142];exact h
 ·cases h)
theorem ae7:aa S Qf:=aa.step ao ae6 aQ Tryz.func141 (by kernel_rfl) (fun ps r h=>by
 unfold ff at h;split at h
 ·rw[eq_141];exact h
 ·cases h)
theorem ae8:aa S O7:=aa.step ao ae7 aQ Tryz.func130 (by kernel_rfl) (fun ps r h=>by
 unfold gq at h;split at h
 ·rw[eq_130];exact h
 ·cases h)
theorem ae9:aa S Pv:=aa.step ao ae8 aQ Tryz.func115 (by kernel_rfl) (fun ps r h=>by
 unfold dR at h;split at h
 ·rw[eq_115];exact h
 ·cases h)
theorem afa:aa S PS:=aa.step ao ae9 aQ Tryz.func97 (by kernel_rfl) (fun ps r h=>by
 unfold eP at h;split at h
 ·rw[eq_97];exact h
 ·cases h)
theorem afb:aa S Qg:=aa.step ao afa aQ Tryz.func96 (by kernel_rfl) (fun ps r h=>by
 unfold jd at h;split at h
 ·rw[eq_96];exact h
 ·cases h)
theorem afc:aa S O8:=aa.step ao afb aQ Tryz.func74 (by kernel_rfl) (fun ps r h=>by
 unfold fD at h;split at h
 ·rw[eq_74];exact h
 ·cases h)
theorem afd:aa S Pw:=aa.step ao afc aQ Tryz.func45 (by kernel_rfl) (fun ps r h=>by
 unfold cF at h;split at h
 ·rw[eq_45];exact h
 ·cases h)
theorem afe:aa S PT:=aa.step ao afd aQ Tryz.func95 (by kernel_rfl) (fun ps r h=>by
 unfold sO at h;split at h
 ·rw[eq_95];exact h
 ·cases h)
theorem aff:aa S Qh:=aa.step ao afe aQ Tryz.func70 (by kernel_rfl) (fun ps r h=>by
 unfold nQ at h;split at h
 ·rw[eq_70];exact h
 ·cases h)
theorem afg:aa S O9:=aa.step ao aff aQ Tryz.func68 (by kernel_rfl) (fun ps r h=>by
 unfold fQ at h;split at h
 ·rw[eq_68];exact h
 ·cases h)
theorem afh:aa S Px:=aa.step ao afg aQ Tryz.func42 (by kernel_rfl) (fun ps r h=>by
 unfold fE at h;split at h
 ·rw[eq_42];exact h
 ·cases h)
theorem afi:aa S PU:=aa.step ao afh aQ Tryz.func40 (by kernel_rfl) (fun ps r h=>by
 unfold dD at h;split at h
 ·rw[eq_40];exact h
 ·cases h)
theorem afj:aa S Qi:=aa.step ao afi aQ Tryz.func73 (by kernel_rfl) (fun ps r h=>by
 unfold bZ at h;split at h
 ·rw[eq_73];exact h
 ·cases h)
theorem afk:aa S Pa:=aa.step ao afj aQ Tryz.func44 (by kernel_rfl) (fun ps r h=>by
 unfold dC at h;split at h
 ·rw[eq_44];exact h
 ·cases h)
theorem afl:aa S Py:=aa.step ao afk aQ Tryz.func69 (by kernel_rfl) (fun ps r h=>by
 unfold pq at h;split at h
 ·rw[eq_69];exact h
 ·cases h)
theorem afm:aa S PW:=aa.step ao afl aQ Tryz.func39 (by kernel_rfl) (fun ps r h=>by
 unfold l6 at h;split at h
 ·rw[eq_39];exact h
 ·cases h)
theorem afn:aa S Qj:=aa.step ao afm aQ Tryz.func38 (by kernel_rfl) (fun ps r h=>by
 unfold nN at h;split at h
 ·rw[eq_38];exact h
 ·cases h)
theorem afo:aa S Pb:=aa.step ao afn aQ Tryz.func23 (by kernel_rfl) (fun ps r h=>by
 unfold gM at h;split at h
 ·rw[eq_23];exact h
 ·cases h)
theorem afp:aa S Pz:=aa.step ao afo aQ Tryz.func12 (by kernel_rfl) (fun ps r h=>by
 unfold dx at h;split at h
 ·rw[eq_12];exact h
 ·cases h)
theorem afq:aa S PX:=aa.step ao afp aQ Tryz.func111 (by kernel_rfl) (fun ps r h=>by
 unfold lU at h;split at h
 ·rw[eq_111];exact h
 ·cases h)
theorem afr:aa S Qk:=aa.step ao afq aQ Tryz.func127 (by kernel_rfl) (fun ps r h=>by
 unfold eL at h;split at h
 ·rw[eq_127];exact h
 ·cases h)
theorem afs:aa S Pc:=aa.step ao afr aQ Tryz.func139 (by kernel_rfl) (fun ps r h=>by
 unfold lS at h;split at h
 ·rw[eq_139];exact h
 ·cases h)
theorem aft:aa S PA:=aa.step ao afs aQ Tryz.func126 (by kernel_rfl) (fun ps r h=>by
 unfold eK at h;split at h
 ·rw[eq_126];exact h
 ·cases h)
theorem afu:aa S PY:=aa.step ao aft aQ Tryz.func136 (by kernel_rfl) (fun ps r h=>by
 unfold eI at h;split at h
 ·rw[eq_136];exact h
 ·cases h)
theorem afv:aa S Ql:=aa.step ao afu aQ Tryz.func138 (by kernel_rfl) (fun ps r h=>by
 unfold fy at h;split at h
 ·rw[eq_138];exact h
 ·cases h)
theorem afw:aa S Pd:=aa.step ao afv aQ Tryz.func134 (by kernel_rfl) (fun ps r h=>by
 unfold jO at h;split at h
 ·rw[eq_134];exact h
 ·cases h)
theorem afx:aa S PB:=aa.step ao afw aQ Tryz.func125 (by kernel_rfl) (fun ps r h=>by
 unfold fT at h;split at h
 ·rw[eq_125];exact h
 ·cases h)
theorem afy:aa S PZ:=aa.step ao afx aQ Tryz.func110 (by kernel_rfl) (fun ps r h=>by
 unfold lT at h;split at h
 ·rw[eq_110];exact h
 ·cases h)
theorem afz:aa S Qm:=aa.step ao afy aQ Tryz.func109 (by kernel_rfl) (fun ps r h=>by
 unfold jC at h;split at h
 ·rw[eq_109];exact h
 ·cases h)
theorem afA:aa S Pe:=aa.step ao afz aQ Tryz.func86 (by kernel_rfl) (fun ps r h=>by
 unfold fI at h;split at h
 ·rw[eq_86];exact h
 ·cases h)
theorem afB:aa S PC:=aa.step ao afA aQ Tryz.func123 (by kernel_rfl) (fun ps r h=>by
 unfold k9 at h;split at h
 ·rw[eq_123];exact h
 ·cases h)
theorem afC:aa S P0:=aa.step ao afB aQ Tryz.func107 (by kernel_rfl) (fun ps r h=>by
 unfold pL at h;split at h
 ·rw[eq_107];exact h
 ·cases h)
theorem afD:aa S Qn:=aa.step ao afC aQ Tryz.func108 (by kernel_rfl) (fun ps r h=>by
 unfold iY at h;split at h
 ·rw[eq_108];exact h
 ·cases h)
theorem afE:aa S Pf:=aa.step ao afD aQ Tryz.func122 (by kernel_rfl) (fun ps r h=>by
 unfold gX at h;split at h
 ·rw[eq_122];exact h
 ·cases h)
theorem afF:aa S PD:=aa.step ao afE aQ Tryz.func106 (by kernel_rfl) (fun ps r h=>by
 unfold jM at h;split at h
 ·rw[eq_106];exact h
 ·cases h)
theorem afG:aa S P1:=aa.step ao afF aQ Tryz.func85 (by kernel_rfl) (fun ps r h=>by
 unfold jN at h;split at h
 ·rw[eq_85];exact h
 ·cases h)
theorem afH:aa S Qo:=aa.step ao afG aQ Tryz.func49 (by kernel_rfl) (fun ps r h=>by
 unfold iX at h;split at h
 ·rw[eq_49];exact h
 ·cases h)
theorem afI:aa S Pg:=aa.step ao afH aQ Tryz.func50 (by kernel_rfl) (fun ps r h=>by
 unfold kN at h;split at h
 ·rw[eq_50];exact h
 ·cases h)
theorem afJ:aa S PE:=aa.step ao afI aQ Tryz.func28 (by kernel_rfl) (fun ps r h=>by
 unfold kO at h;split at h
 ·rw[eq_28];exact h
 ·cases h)
theorem afK:aa S P2:=aa.step ao afJ aQ Tryz.func91 (by kernel_rfl) (fun ps r h=>by
 unfold aG at h;split at h
 ·rw[eq_91];exact h
 ·cases h)
theorem afL:aa S Qp:=aa.step ao afK aQ Tryz.func103 (by kernel_rfl) (fun ps r h=>by
 unfold bN at h;split at h
 ·rw[eq_103];exact h
 ·cases h)
theorem afM:aa S Ph:=aa.step ao afL aQ Tryz.func104 (by kernel_rfl) (fun ps r h=>by
 unfold cH at h;split at h
 ·rw[eq_104];exact h
 ·cases h)
theorem afN:aa S PF:=aa.step ao afM aQ Tryz.func83 (by kernel_rfl) (fun ps r h=>by
 unfold bW at h;split at h
 ·rw[eq_83];exact h
 ·cases h)
theorem afO:aa S P3:=aa.step ao afN aQ Tryz.func81 (by kernel_rfl) (fun ps r h=>by
 unfold cm at h;split at h
 ·rw[eq_81];exact h
 ·cases h)
theorem afP:aa S Qq:=aa.step ao afO aQ Tryz.func82 (by kernel_rfl) (fun ps r h=>by
 unfold cz at h;split at h
 ·rw[eq_82];exact h
 ·cases h)
theorem afQ:aa S Pj:=aa.step ao afP aQ Tryz.func93 (by kernel_rfl) (fun ps r h=>by
 unfold cG at h;split at h
 ·rw[eq_93];exact h
 ·cases h)
theorem afR:aa S PG:=aa.step ao afQ aQ Tryz.func94 (by kernel_rfl) (fun ps r h=>by
 unfold c7 at h;split at h
 ·rw[eq_94];exact h
 ·cases h)
theorem afS:aa S P4:=aa.step ao afR aQ Tryz.func84 (by kernel_rfl) (fun ps r h=>by
 unfold dA at h;split at h
 ·rw[eq_84];exact h
 ·cases h)
theorem afT:aa S Qr:=aa.step ao afS aQ Tryz.func58 (by kernel_rfl) (fun ps r h=>by
 unfold db at h;split at h
 ·rw[eq_58];exact h
 ·cases h)
theorem afU:aa S Pk:=aa.step ao afT aQ Tryz.func57 (by kernel_rfl) (fun ps r h=>by
 unfold cE at h;split at h
 ·rw[eq_57];exact h
 ·cases h)
theorem afV:aa S PH:=aa.step ao afU aQ Tryz.func92 (by kernel_rfl) (fun ps r h=>by
 unfold dz at h;split at h
 ·rw[eq_92];exact h
 ·cases h)
theorem afW:aa S P5:=aa.step ao afV aQ Tryz.func60 (by kernel_rfl) (fun ps r h=>by
 unfold cy at h;split at h
 ·rw[eq_60];exact h
 ·cases h)
theorem afX:aa S Qs:=aa.step ao afW aQ Tryz.func59 (by kernel_rfl) (fun ps r h=>by
 unfold dK at h;split at h
 ·rw[eq_59];exact h
 ·cases h)
theorem afY:aa S Pl:=aa.step ao afX aQ Tryz.func31 (by kernel_rfl) (fun ps r h=>by
 unfold eg at h;split at h
 ·rw[eq_31];exact h
 ·cases h)
theorem afZ:aa S PI:=aa.step ao afY aQ Tryz.func48 (by kernel_rfl) (fun ps r h=>by
 unfold dB at h;split at h
 ·rw[eq_48];exact h
 ·cases h)
theorem af0:aa S P6:=aa.step ao afZ aQ Tryz.func27 (by kernel_rfl) (fun ps r h=>by
 unfold gL at h;split at h
 ·rw[eq_27];exact h
 ·cases h)
theorem af1:aa S Qt:=aa.step ao af0 aQ Tryz.func14 (by kernel_rfl) (fun ps r h=>by
 unfold bB at h;split at h
 ·rw[eq_14];exact h
 ·cases h)
theorem af2:aa S Pm:=aa.step ao af1 aQ Tryz.func22 (by kernel_rfl) (fun ps r h=>by
 unfold jb at h;split at h
 ·rw[eq_22];exact h
 ·cases h)
theorem af3:aa S P7:=aa.step ao af2 aQ Tryz.func11 (by kernel_rfl) (fun ps r h=>by
 unfold dM at h;split at h
 ·rw[eq_11];exact h
 ·cases h)
theorem af4:aa S Qu:=aa.step ao af3 aQ Tryz.func98 (by kernel_rfl) (fun ps r h=>by
 unfold eu at h;split at h
 ·rw[eq_98];exact h
 ·cases h)
theorem af5:aa S Pn:=aa.step ao af4 aQ Tryz.func99 (by kernel_rfl) (fun ps r h=>by
 unfold bO at h;split at h
 ·rw[eq_99];exact h
 ·cases h)
theorem af6:aa S PJ:=aa.step ao af5 aQ Tryz.func80 (by kernel_rfl) (fun ps r h=>by
 unfold l7 at h;split at h
 ·rw[eq_80];exact h
 ·cases h)
theorem af7:aa S P8:=aa.step ao af6 aQ Tryz.func101 (by kernel_rfl) (fun ps r h=>by
 unfold mb at h;split at h
 ·rw[eq_101];exact h
 ·cases h)
theorem af8:aa S Qv:=aa.step ao af7 aQ Tryz.func78 (by kernel_rfl) (fun ps r h=>by
 unfold nW at h;split at h
 ·rw[eq_78];exact h
 ·cases h)
theorem af9:aa S Po:=aa.step ao af8 aQ Tryz.func121 (by kernel_rfl) (fun ps r h=>by
 unfold fU at h;split at h
 ·rw[eq_121];exact h
 ·cases h)
theorem aga:aa S PK:=aa.step ao af9 aQ Tryz.func102 (by kernel_rfl) (fun ps r h=>by
 unfold gk at h;split at h
 ·rw[eq_102];exact h
 ·cases h)
theorem agb:aa S P9:=aa.step ao aga aQ Tryz.func79 (by kernel_rfl) (fun ps r h=>by
 unfold ma at h;split at h
 ·rw[eq_79];exact h
 ·cases h)
theorem agc:aa S Qw:=aa.step ao agb aQ Tryz.func76 (by kernel_rfl) (fun ps r h=>by
 unfold kR at h;split at h
 ·rw[eq_76];exact h
 ·cases h)
theorem agd:aa S Pp:=aa.step ao agc aQ Tryz.func100 (by kernel_rfl) (fun ps r h=>by
 unfold l8 at h;split at h
 ·rw[eq_100];exact h
 ·cases h)
theorem age:aa S PL:=aa.step ao agd aQ Tryz.func77 (by kernel_rfl) (fun ps r h=>by
 unfold pU at h;split at h
 ·rw[eq_77];exact h
 ·cases h)
theorem agf:aa S Qa:=aa.step ao age aQ Tryz.func75 (by kernel_rfl) (fun ps r h=>by
 unfold l5 at h;split at h
 ·rw[eq_75];exact h
 ·cases h)
theorem agh:aa S Qx:=aa.step ao agf aQ Tryz.func46 (by kernel_rfl) (fun ps r h=>by
 unfold mc at h;split at h
 ·rw[eq_46];exact h
 ·cases h)
theorem agi:aa S Pq:=aa.step ao agh aQ Tryz.func25 (by kernel_rfl) (fun ps r h=>by
 unfold il at h;split at h
 ·rw[eq_25];exact h
 ·cases h)
theorem agj:aa S PM:=aa.step ao agi aQ Tryz.func47 (by kernel_rfl) (fun ps r h=>by
 unfold ef at h;split at h
 ·rw[eq_47];exact h
 ·cases h)
theorem agk:aa S Qb:=aa.step ao agj aQ Tryz.func26 (by kernel_rfl) (fun ps r h=>by
 unfold gd at h;split at h
 ·rw[eq_26];exact h
 ·cases h)
theorem agl:aa S Pr:=aa.step ao agk aQ Tryz.func13 (by kernel_rfl) (fun ps r h=>by
 unfold eH at h;split at h
 ·rw[eq_13];exact h
 ·cases h)
theorem agm:aa S PN:=aa.step ao agl aQ Tryz.func53 (by kernel_rfl) (fun ps r h=>by
 unfold gW at h;split at h
 ·rw[eq_53];exact h
 ·cases h)
theorem agn:aa S Qc:=aa.step ao agm aQ Tryz.func51 (by kernel_rfl) (fun ps r h=>by
 unfold lQ at h;split at h
 ·rw[eq_51];exact h
 ·cases h)
theorem ago:aa S Qy:=aa.step ao agn aQ Tryz.func87 (by kernel_rfl) (fun ps r h=>by
 unfold iW at h;split at h
 ·rw[eq_87];exact h
 ·cases h)
theorem agp:aa S Ps:=aa.step ao ago aQ Tryz.func52 (by kernel_rfl) (fun ps r h=>by
 unfold fb at h;split at h
 ·rw[eq_52];exact h
 ·cases h)
theorem agq:aa S PO:=aa.step ao agp aQ Tryz.func61 (by kernel_rfl) (fun ps r h=>by
 unfold iU at h;split at h
 ·rw[eq_61];exact h
 ·cases h)
theorem agr:aa S Qd:=aa.step ao agq aQ Tryz.func62 (by kernel_rfl) (fun ps r h=>by
 unfold ny at h;split at h
 ·rw[eq_62];exact h
 ·cases h)
theorem acW:aa S JW:=aa.step ao agr aQ Tryz.func63 (by kernel_rfl) (fun ps r h=>by
 unfold nv at h;split at h
 ·rw[eq_63];exact h
 ·cases h)
theorem acX:aa S JF:=aa.step ao acW aQ Tryz.func32 (by kernel_rfl) (fun ps r h=>by
 unfold iV at h;split at h
 ·rw[eq_32];exact h
 ·cases h)
theorem acY:aa S JM:=aa.step ao acX aQ Tryz.func29 (by kernel_rfl) (fun ps r h=>by
 unfold iq at h;split at h
 ·rw[eq_29];exact h
 ·cases h)
theorem acZ:aa S JR:=aa.step ao acY aQ Tryz.func90 (by kernel_rfl) (fun ps r h=>by
 unfold kM at h;split at h
 ·rw[eq_90];exact h
 ·cases h)
theorem ac0:aa S JX:=aa.step ao acZ aQ Tryz.func128 (by kernel_rfl) (fun ps r h=>by
 unfold nB at h;split at h
 ·rw[eq_128];exact h
 ·cases h)
theorem ac1:aa S JG:=aa.step ao ac0 aQ Tryz.func129 (by kernel_rfl) (fun ps r h=>by
 unfold fe at h;split at h
 ·rw[eq_129];exact h
 ·cases h)
theorem ac2:aa S JN:=aa.step ao ac1 aQ Tryz.func113 (by kernel_rfl) (fun ps r h=>by
 unfold kK at h;split at h
 ·rw[eq_113];exact h
 ·cases h)
theorem ac3:aa S JS:=aa.step ao ac2 aQ Tryz.func114 (by kernel_rfl) (fun ps r h=>by
 unfold fA at h;split at h
 ·rw[eq_114];exact h
 ·cases h)
theorem ac4:aa S JY:=aa.step ao ac3 aQ Tryz.func89 (by kernel_rfl) (fun ps r h=>by
 unfold lV at h;split at h
 ·rw[eq_89];exact h
 ·cases h)
theorem ac5:aa S JH:=aa.step ao ac4 aQ Tryz.func112 (by kernel_rfl) (fun ps r h=>by
 unfold jV at h;split at h
 ·rw[eq_112];exact h
 ·cases h)
theorem ac6:aa S JO:=aa.step ao ac5 aQ Tryz.func88 (by kernel_rfl) (fun ps r h=>by
 unfold lR at h;split at h
 ·rw[eq_88];exact h
 ·cases h)
theorem ac7:aa S JT:=aa.step ao ac6 aQ Tryz.func54 (by kernel_rfl) (fun ps r h=>by
 unfold jB at h;split at h
 ·rw[eq_54];exact h
 ·cases h)
theorem ac8:aa S JZ:=aa.step ao ac7 aQ Tryz.func55 (by kernel_rfl) (fun ps r h=>by
 unfold nE at h;split at h
 ·rw[eq_55];exact h
 ·cases h)
theorem ac9:aa S JI:=aa.step ao ac8 aQ Tryz.func30 (by kernel_rfl) (fun ps r h=>by
 unfold pM at h;split at h
 ·rw[eq_30];exact h
 ·cases h)
theorem ada:aa S J0:=aa.step ao ac9 aQ Tryz.func15 (by kernel_rfl) (fun ps r h=>by
 unfold lW at h;split at h
 ·rw[eq_15];exact h
 ·cases h)
theorem adb:aa S JU:=aa.step ao ada aQ Tryz.func19 (by kernel_rfl) (fun ps r h=>by
 unfold cC at h;split at h
 ·rw[eq_19];exact h
 ·cases h)
theorem ade:aa S J1:=aa.step ao adb aQ Tryz.func20 (by kernel_rfl) (fun ps r h=>by
 unfold lZ at h;split at h
 ·rw[eq_20];exact h
 ·cases h)
theorem adf:aa S JJ:=aa.step ao ade aQ Tryz.func34 (by kernel_rfl) (fun ps r h=>by
 unfold eN at h;split at h
 ·rw[eq_34];exact h
 ·cases h)
theorem YQ:aa S Eo:=aa.step ao adf aQ Tryz.func67 (by kernel_rfl) (fun ps r h=>by
 unfold jX at h;split at h
 ·rw[eq_67];exact h
 ·cases h)
theorem DR:tq S vK:=tq.step ao YQ aQ Tryz.func64 (by kernel_rfl) (fun ps r h=>by
 unfold dN at h;split at h
 ·rw[eq_64];exact h
 ·cases h)
theorem adg:aa S J2:=aa.step ao YQ DR Tryz.func33 (by kernel_rfl) (fun ps r h=>by
 unfold dO at h;split at h
 ·rw[eq_33];exact h
 ·cases h)
theorem adh:aa S JK:=aa.step ao adg DR Tryz.func66 (by kernel_rfl) (fun ps r h=>by
 unfold jD at h;split at h
 ·rw[eq_66];exact h
 ·cases h)
theorem adi:aa S JP:=aa.step ao adh DR Tryz.func37 (by kernel_rfl) (fun ps r h=>by
 unfold jc at h;split at h
 ·rw[eq_37];exact h
 ·cases h)
theorem adj:aa S JV:=aa.step ao adi DR Tryz.func65 (by kernel_rfl) (fun ps r h=>by
 unfold lY at h;split at h
 ·rw[eq_65];exact h
 ·cases h)
theorem adk:aa S J3:=aa.step ao adj DR Tryz.func36 (by kernel_rfl) (fun ps r h=>by
 unfold fq at h;split at h
 ·rw[eq_36];exact h
 ·cases h)
theorem adl:aa S JL:=aa.step ao adk DR Tryz.func35 (by kernel_rfl) (fun ps r h=>by
 unfold lX at h;split at h
 ·rw[eq_35];exact h
 ·cases h)
theorem adm:aa S JQ:=aa.step ao adl DR Tryz.func21 (by kernel_rfl) (fun ps r h=>by
 unfold pR at h;split at h
 ·rw[eq_21];exact h
 ·cases h)
theorem adn:aa S TH:=aa.step ao adm DR Tryz.func9 (by kernel_rfl) (fun ps r h=>by
 unfold dc at h;split at h
 ·rw[eq_9];exact h
 ·cases h)
end Go.Proofs.YtanikidijjaohaaGreat
