import Derived.Test.YtcmhmlnkhmefbaaGreatEq1
import Derived.Test.YtcmhmlnkhmefbaaGreatEq2
import Derived.Test.YtcmhmlnkhmefbaaGreatEq3
import Derived.Test.YtcmhmlnkhmefbaaGreatEq4
import Derived.Test.YtcmhmlnkhmefbaaGreatLays
import Derived.Test.YtcmhmlnkhmefbaaGreatAbSortKOk
namespace Go.Proofs.YtcmhmlnkhmefbaaGreat
open Go.Ab
theorem Gi:uc S0:=⟨by kernel_rfl,(fun g h hh=>by cases hh),by kernel_rfl⟩
theorem abu:an S0 S9:=an.nil S0
theorem Mh:fv S0 bR:=fv.nil S0
theorem abv:an S0 Tc:=an.step Gi abu Mh Tryz.func102 (by kernel_rfl) (fun ps r h=>by
 unfold cS at h;split at h
 ·rw[eq_102];exact h
 ·cases h)
theorem abw:an S0 Tf:=an.step Gi abv Mh Tryz.func101 (by kernel_rfl) (fun ps r h=>by
 unfold gN at h;split at h
 ·rw[eq_101];exact h
 ·cases h)
theorem XL:an S0 Ow:=an.step Gi abw Mh Tryz.func100 (by kernel_rfl) (fun ps r h=>by
 unfold bt at h;split at h
 ·rw[eq_100];exact h
 ·cases h)
theorem ZS(g:Nat)(M:List PV→Option PV)(h:V5 g=some M):tI S.P S.aH g M:=by
 unfold V5 at h;cases e:Nat.beq g 100 with
 |true=>rw[e]at h;have:=Nat.eq_of_beq_eq_true e;subst this;cases h;exact XL (100,bt) (ud (by kernel_rfl))
 |false=>rw[e]at h;cases h
theorem aJ:uc S:=⟨by kernel_rfl,(fun g h hh R args f m k r hr=>by
 have hh:(bif Nat.beq g 99 then some (vE 4 V5)else none)=some h:=hh;cases e:Nat.beq g 99 with
 |true=>rw[e]at hh;have:=Nat.eq_of_beq_eq_true e;subst this;cases hh;exact FM V8 rfl ⟨Tryz.f99,_,Tryz.func99,rfl,by kernel_rfl⟩ Tryz.isAgg83 Tryz.sizeOf83 ZS hr
 |false=>rw[e]at hh;cases hh),by kernel_rfl⟩
theorem afy:an S Ow:=fun x hx=>XL x hx
theorem dV:fv S bR:=fv.nil S
theorem afz:an S Ta:=an.step aJ afy dV Tryz.func24 (by kernel_rfl) (fun ps r h=>by
 unfold ir at h;split at h
 ·rw[eq_24];exact h
 ·cases h)
theorem afA:an S Td:=an.step aJ afz dV Tryz.func25 (by kernel_rfl) (fun ps r h=>by
 unfold fY at h;split at h
 ·rw[eq_25];exact h
 ·cases h)
theorem afB:an S Tg:=an.step aJ afA dV Tryz.func23 (by kernel_rfl) (fun ps r h=>by
 unfold fK at h;split at h
 ·rw[eq_23];exact h
 ·cases h)
theorem afC:an S Th:=an.step aJ afB dV Tryz.func90 (by kernel_rfl) (fun ps r h=>by
 unfold ku at h;split at h
 ·rw[eq_90];exact h
 ·cases h)
theorem afD:an S Tb:=an.step aJ afC dV Tryz.func77 (by kernel_rfl) (fun ps r h=>by
 unfold dw at h;split at h
 ·rw[eq_77];exact h
 ·cases h)
theorem afE:an S Te:=an.step aJ afD dV Tryz.func94 (by kernel_rfl) (fun ps r h=>by
 unfold fi at h;split at h
 ·rw[eq_94];exact h
 ·cases h)
theorem abx:an S K4:=an.step aJ afE dV Tryz.func93 (by kernel_rfl) (fun ps r h=>by
 unfold ef at h;split at h
 ·rw[eq_93];exact h
 ·cases h)
theorem aby:an S Lo:=an.step aJ abx dV Tryz.func50 (by kernel_rfl) (fun ps r h=>by
 unfold gM at h;split at h
 ·rw[eq_50];exact h
 ·cases h)
theorem abz:an S Kt:=an.step aJ aby dV Tryz.func49 (by kernel_rfl) (fun ps r h=>by
 unfold dv at h;split at h
 ·rw[eq_49];exact h
 ·cases h)
theorem abA:an S KL:=an.step aJ abz dV Tryz.func48 (by kernel_rfl) (fun ps r h=>by
 unfold bJ at h;split at h
 ·rw[eq_48];exact h
 ·cases h)
theorem abB:an S K5:=an.step aJ abA dV Tryz.func51 (by kernel_rfl) (fun ps r h=>by
 unfold dW at h;split at h
 ·rw[eq_51];exact h
 ·cases h)
theorem abC:an S Lp:=an.step aJ abB dV Tryz.func52 (by kernel_rfl) (fun ps r h=>by
 unfold fy at h;split at h
 ·rw[eq_52];exact h
 ·cases h)
theorem abD:an S Ku:=an.step aJ abC dV Tryz.func27 (by kernel_rfl) (fun ps r h=>by
 unfold cJ at h;split at h
 ·rw[eq_27];exact h
 ·cases h)
theorem abE:an S KM:=an.step aJ abD dV Tryz.func79 (by kernel_rfl) (fun ps r h=>by
 unfold eX at h;split at h
 ·rw[eq_79];exact h
 ·cases h)
theorem abF:an S K6:=an.step aJ abE dV Tryz.func43 (by kernel_rfl) (fun ps r h=>by
 unfold aV at h;split at h
 ·rw[eq_43];exact h
 ·cases h)
theorem abG:an S Lq:=an.step aJ abF dV Tryz.func78 (by kernel_rfl) (fun ps r h=>by
 unfold bT at h;split at h
 ·rw[eq_78];exact h
 ·cases h)
theorem abH:an S Kv:=an.step aJ abG dV Tryz.func45 (by kernel_rfl) (fun ps r h=>by
 unfold cv at h;split at h
 ·rw[eq_45];exact h
 ·cases h)
theorem abI:an S KN:=an.step aJ abH dV Tryz.func121 (by kernel_rfl) (fun ps r h=>by
 unfold cB at h;split at h
 ·rw[eq_121];exact h
 ·cases h)
theorem abJ:an S K7:=an.step aJ abI dV Tryz.func107 (by kernel_rfl) (fun ps r h=>by
 unfold eA at h;split at h
 ·rw[eq_107];exact h
 ·cases h)
theorem abK:an S Lr:=an.step aJ abJ dV Tryz.func123 (by kernel_rfl) (fun ps r h=>by
 unfold ee at h;split at h
 ·rw[eq_123];exact h
 ·cases h)
theorem abL:an S Kw:=an.step aJ abK dV Tryz.func131 (by kernel_rfl) (fun ps r h=>by
 unfold aD at h;split at h
 ·rw[eq_131];exact h
 ·cases h)
theorem abM:an S KO:=an.step aJ abL dV Tryz.func110 (by kernel_rfl) (fun ps r h=>by
 unfold dr at h;split at h
 ·rw[eq_110];exact h
 ·cases h)
theorem abN:an S K8:=an.step aJ abM dV Tryz.func109 (by kernel_rfl) (fun ps r h=>by
 unfold dA at h;split at h
 ·rw[eq_109];exact h
 ·cases h)
theorem abO:an S Lt:=an.step aJ abN dV Tryz.func108 (by kernel_rfl) (fun ps r h=>by
 unfold c8 at h;split at h
 ·rw[eq_108];exact h
 ·cases h)
theorem abP:an S Kx:=an.step aJ abO dV Tryz.func103 (by kernel_rfl) (fun ps r h=>by
 unfold dR at h;split at h
 ·rw[eq_103];exact h
 ·cases h)
theorem abQ:an S KP:=an.step aJ abP dV Tryz.func97 (by kernel_rfl) (fun ps r h=>by
 unfold cu at h;split at h
 ·rw[eq_97];exact h
 ·cases h)
theorem abR:an S K9:=an.step aJ abQ dV Tryz.func92 (by kernel_rfl) (fun ps r h=>by
 unfold c7 at h;split at h
 ·rw[eq_92];exact h
 ·cases h)
theorem abS:an S Lu:=an.step aJ abR dV Tryz.func91 (by kernel_rfl) (fun ps r h=>by
 unfold ez at h;split at h
 ·rw[eq_91];exact h
 ·cases h)
theorem abT:an S Ky:=an.step aJ abS dV Tryz.func81 (by kernel_rfl) (fun ps r h=>by
 unfold dq at h;split at h
 ·rw[eq_81];exact h
 ·cases h)
theorem abU:an S KQ:=an.step aJ abT dV Tryz.func47 (by kernel_rfl) (fun ps r h=>by
 unfold bG at h;split at h
 ·rw[eq_47];exact h
 ·cases h)
theorem abV:an S La:=an.step aJ abU dV Tryz.func44 (by kernel_rfl) (fun ps r h=>by
 unfold dp at h;split at h
 ·rw[eq_44];exact h
 ·cases h)
theorem abW:an S Lv:=an.step aJ abV dV Tryz.func42 (by kernel_rfl) (fun ps r h=>by
 unfold cH at h;split at h
 ·rw[eq_42];exact h
 ·cases h)
theorem abX:an S Kz:=an.step aJ abW dV Tryz.func80 (by kernel_rfl) (fun ps r h=>by
 unfold bw at h;split at h
 ·rw[eq_80];exact h
 ·cases h)
theorem abY:an S KS:=an.step aJ abX dV Tryz.func46 (by kernel_rfl) (fun ps r h=>by
 unfold db at h;split at h
 ·rw[eq_46];exact h
 ·cases h)
theorem abZ:an S Lb:=an.step aJ abY dV Tryz.func76 (by kernel_rfl) (fun ps r h=>by
 unfold iq at h;split at h
 ·rw[eq_76];exact h
 ·cases h)
theorem ab0:an S Lw:=an.step aJ abZ dV Tryz.func41 (by kernel_rfl) (fun ps r h=>by
 unfold fX at h;split at h
 ·rw[eq_41];exact h
 ·cases h)
theorem ab1:an S KA:=an.step aJ ab0 dV Tryz.func40 (by kernel_rfl) (fun ps r h=>by
 unfold gL at h;split at h
 ·rw[eq_40];exact h
 ·cases h)
theorem Au:an S qX:=an.step aJ ab1 dV Tryz.func26 (by kernel_rfl) (fun ps r h=>by
 unfold ec at h;split at h
 ·rw[eq_26];exact h
 ·cases h)
theorem ab2:fv S Lc:=fv.step aJ Au dV Tryz.func58 (by kernel_rfl) (fun ps r h=>by
 unfold cz at h;split at h
 ·rw[eq_58];exact h
 ·cases h)
theorem ab3:fv S Lx:=fv.step aJ Au ab2 Tryz.func57 (by kernel_rfl) (fun ps r h=>by
 unfold bH at h;split at h
 ·rw[eq_57];exact h
 ·cases h)
theorem ab4:fv S KB:=fv.step aJ Au ab3 Tryz.func56 (by kernel_rfl) (fun ps r h=>by
 unfold cy at h;split at h
 ·rw[eq_56];exact h
 ·cases h)
theorem ab5:fv S KT:=fv.step aJ Au ab4 Tryz.func59 (by kernel_rfl) (fun ps r h=>by
 unfold bN at h;split at h
 ·rw[eq_59];exact h
 ·cases h)
theorem ab6:fv S Ld:=fv.step aJ Au ab5 Tryz.func54 (by kernel_rfl) (fun ps r h=>by
 unfold ck at h;split at h
 ·rw[eq_54];exact h
 ·cases h)
theorem ab7:fv S Ly:=fv.step aJ Au ab6 Tryz.func55 (by kernel_rfl) (fun ps r h=>by
 unfold cO at h;split at h
 ·rw[eq_55];exact h
 ·cases h)
theorem XM:fv S FN:=fv.step aJ Au ab7 Tryz.func53 (by kernel_rfl) (fun ps r h=>by
 unfold cw at h;split at h
 ·rw[eq_53];exact h
 ·cases h)
theorem XN:an S FP:=an.step aJ Au XM Tryz.func12 (by kernel_rfl) (fun ps r h=>by
 unfold bK at h;split at h
 ·rw[eq_12];exact h
 ·cases h)
theorem dE:fv S bX:=fv.step aJ XN XM Tryz.func82 (by kernel_rfl) (fun ps r h=>by
 unfold dc at h;split at h
 ·rw[eq_82];exact h
 ·cases h)
theorem ab8:an S Lz:=an.step aJ XN dE Tryz.func85 (by kernel_rfl) (fun ps r h=>by
 unfold bP at h;split at h
 ·rw[eq_85];exact h
 ·cases h)
theorem ab9:an S KC:=an.step aJ ab8 dE Tryz.func20 (by kernel_rfl) (fun ps r h=>by
 unfold dN at h;split at h
 ·rw[eq_20];exact h
 ·cases h)
theorem aca:an S KU:=an.step aJ ab9 dE Tryz.func15 (by kernel_rfl) (fun ps r h=>by
 unfold bl at h;split at h
 ·rw[eq_15];exact h
 ·cases h)
theorem acb:an S Le:=an.step aJ aca dE Tryz.func75 (by kernel_rfl) (fun ps r h=>by
 unfold cj at h;split at h
 ·rw[eq_75];exact h
 ·cases h)
theorem acd:an S LA:=an.step aJ acb dE Tryz.func39 (by kernel_rfl) (fun ps r h=>by
 unfold fx at h;split at h
 ·rw[eq_39];exact h
 ·cases h)
theorem ace:an S FO:=an.step aJ acd dE Tryz.func22 (by kernel_rfl) (fun ps r h=>by
 unfold bY at h;split at h
 ·rw[eq_22];exact h
 ·cases h)
theorem acf:an S KV:=an.step aJ ace dE Tryz.func11 (by kernel_rfl) (fun ps r h=>by
 unfold da at h;split at h
 ·rw[eq_11];exact h
 ·cases h)
theorem acg:an S Lf:=an.step aJ acf dE Tryz.func86 (by kernel_rfl) (fun ps r h=>by
 unfold eg at h;split at h
 ·rw[eq_86];exact h
 ·cases h)
theorem ach:an S LB:=an.step aJ acg dE Tryz.func87 (by kernel_rfl) (fun ps r h=>by
 unfold bE at h;split at h
 ·rw[eq_87];exact h
 ·cases h)
theorem aci:an S KD:=an.step aJ ach dE Tryz.func74 (by kernel_rfl) (fun ps r h=>by
 unfold jN at h;split at h
 ·rw[eq_74];exact h
 ·cases h)
theorem acj:an S KW:=an.step aJ aci dE Tryz.func88 (by kernel_rfl) (fun ps r h=>by
 unfold jQ at h;split at h
 ·rw[eq_88];exact h
 ·cases h)
theorem ack:an S Lg:=an.step aJ acj dE Tryz.func72 (by kernel_rfl) (fun ps r h=>by
 unfold lN at h;split at h
 ·rw[eq_72];exact h
 ·cases h)
theorem acm:an S LC:=an.step aJ ack dE Tryz.func96 (by kernel_rfl) (fun ps r h=>by
 unfold fk at h;split at h
 ·rw[eq_96];exact h
 ·cases h)
theorem acn:an S KE:=an.step aJ acm dE Tryz.func89 (by kernel_rfl) (fun ps r h=>by
 unfold fB at h;split at h
 ·rw[eq_89];exact h
 ·cases h)
theorem aco:an S KX:=an.step aJ acn dE Tryz.func73 (by kernel_rfl) (fun ps r h=>by
 unfold jO at h;split at h
 ·rw[eq_73];exact h
 ·cases h)
theorem acp:an S Lh:=an.step aJ aco dE Tryz.func70 (by kernel_rfl) (fun ps r h=>by
 unfold iZ at h;split at h
 ·rw[eq_70];exact h
 ·cases h)
theorem acq:an S LD:=an.step aJ acp dE Tryz.func34 (by kernel_rfl) (fun ps r h=>by
 unfold cq at h;split at h
 ·rw[eq_34];exact h
 ·cases h)
theorem acr:an S KF:=an.step aJ acq dE Tryz.func71 (by kernel_rfl) (fun ps r h=>by
 unfold nj at h;split at h
 ·rw[eq_71];exact h
 ·cases h)
theorem acs:an S KY:=an.step aJ acr dE Tryz.func69 (by kernel_rfl) (fun ps r h=>by
 unfold jM at h;split at h
 ·rw[eq_69];exact h
 ·cases h)
theorem acu:an S Li:=an.step aJ acs dE Tryz.func38 (by kernel_rfl) (fun ps r h=>by
 unfold jR at h;split at h
 ·rw[eq_38];exact h
 ·cases h)
theorem acv:an S LF:=an.step aJ acu dE Tryz.func19 (by kernel_rfl) (fun ps r h=>by
 unfold iv at h;split at h
 ·rw[eq_19];exact h
 ·cases h)
theorem acw:an S KG:=an.step aJ acv dE Tryz.func10 (by kernel_rfl) (fun ps r h=>by
 unfold jS at h;split at h
 ·rw[eq_10];exact h
 ·cases h)
theorem acx:an S Lj:=an.step aJ acw dE Tryz.func13 (by kernel_rfl) (fun ps r h=>by
 unfold gz at h;split at h
 ·rw[eq_13];exact h
 ·cases h)
theorem acy:an S LG:=an.step aJ acx dE Tryz.func14 (by kernel_rfl) (fun ps r h=>by
 unfold hZ at h;split at h
 ·rw[eq_14];exact h
 ·cases h)
theorem acz:an S KH:=an.step aJ acy dE Tryz.func37 (by kernel_rfl) (fun ps r h=>by
 unfold fS at h;split at h
 ·rw[eq_37];exact h
 ·cases h)
theorem acA:an S KZ:=an.step aJ acz dE Tryz.func68 (by kernel_rfl) (fun ps r h=>by
 unfold fR at h;split at h
 ·rw[eq_68];exact h
 ·cases h)
theorem acB:an S Lk:=an.step aJ acA dE Tryz.func36 (by kernel_rfl) (fun ps r h=>by
 unfold gv at h;split at h
 ·rw[eq_36];exact h
 ·cases h)
theorem acC:an S LH:=an.step aJ acB dE Tryz.func17 (by kernel_rfl) (fun ps r h=>by
 unfold fj at h;split at h
 ·rw[eq_17];exact h
 ·cases h)
theorem acD:an S KI:=an.step aJ acC dE Tryz.func67 (by kernel_rfl) (fun ps r h=>by
 unfold iw at h;split at h
 ·rw[eq_67];exact h
 ·cases h)
theorem acE:an S K0:=an.step aJ acD dE Tryz.func65 (by kernel_rfl) (fun ps r h=>by
 unfold ic at h;split at h
 ·rw[eq_65];exact h
 ·cases h)
theorem acF:an S Ll:=an.step aJ acE dE Tryz.func66 (by kernel_rfl) (fun ps r h=>by
 unfold jT at h;split at h
 ·rw[eq_66];exact h
 ·cases h)
theorem acG:an S LI:=an.step aJ acF dE Tryz.func33 (by kernel_rfl) (fun ps r h=>by
 unfold fT at h;split at h
 ·rw[eq_33];exact h
 ·cases h)
theorem acH:an S KJ:=an.step aJ acG dE Tryz.func63 (by kernel_rfl) (fun ps r h=>by
 unfold lX at h;split at h
 ·rw[eq_63];exact h
 ·cases h)
theorem acI:an S K1:=an.step aJ acH dE Tryz.func64 (by kernel_rfl) (fun ps r h=>by
 unfold jU at h;split at h
 ·rw[eq_64];exact h
 ·cases h)
theorem XO:an S FQ:=an.step aJ acI dE Tryz.func30 (by kernel_rfl) (fun ps r h=>by
 unfold jV at h;split at h
 ·rw[eq_30];exact h
 ·cases h)
theorem Wt:fv S ((32,gT)::bX):=fv.step aJ XO dE Tryz.func32 (by kernel_rfl) (fun ps r h=>by
 unfold gT at h;split at h
 ·rw[eq_32];exact h
 ·cases h)
theorem Wu:fv S HP:=fun x hx=>(List.mem_cons.1 hx).elim (fun e=>Wt x (e▸List.mem_cons_self)) (fun h=>dE x h)
theorem acJ:an S KK:=an.step aJ XO Wu Tryz.func31 (by kernel_rfl) (fun ps r h=>by
 unfold jW at h;split at h
 ·rw[eq_31];exact h
 ·cases h)
theorem acK:an S K2:=an.step aJ acJ dE Tryz.func35 (by kernel_rfl) (fun ps r h=>by
 unfold bU at h;split at h
 ·rw[eq_35];exact h
 ·cases h)
theorem acL:an S K3:=an.step aJ acK dE Tryz.func16 (by kernel_rfl) (fun ps r h=>by
 unfold jX at h;split at h
 ·rw[eq_16];exact h
 ·cases h)
theorem acM:an S Ln:=an.step aJ acL dE Tryz.func21 (by kernel_rfl) (fun ps r h=>by
 unfold nq at h;split at h
 ·rw[eq_21];exact h
 ·cases h)
theorem acN:an S TO:=an.step aJ acM dE Tryz.func6 (by kernel_rfl) (fun ps r h=>by
 unfold fD at h;split at h
 ·rw[eq_6];exact h
 ·cases h)
end Go.Proofs.YtcmhmlnkhmefbaaGreat
