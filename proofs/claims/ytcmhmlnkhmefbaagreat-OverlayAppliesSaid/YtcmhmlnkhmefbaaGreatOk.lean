import Derived.Test.YtcmhmlnkhmefbaaGreatEq1
import Derived.Test.YtcmhmlnkhmefbaaGreatEq2
import Derived.Test.YtcmhmlnkhmefbaaGreatEq3
import Derived.Test.YtcmhmlnkhmefbaaGreatEq4
import Derived.Test.YtcmhmlnkhmefbaaGreatLays
import Derived.Test.YtcmhmlnkhmefbaaGreatAbSortKOk
namespace Go.Proofs.YtcmhmlnkhmefbaaGreat
open Go.Ab
theorem F4:ua S0:=⟨by kernel_rfl,(fun g h hh=>by cases hh),by kernel_rfl⟩
theorem abk:ao S0 SM:=ao.nil S0
theorem L3:fx S0 bR:=fx.nil S0
theorem abl:ao S0 SP:=ao.step F4 abk L3 Tryz.func102 (by kernel_rfl) (fun ps r h=>by
 unfold cS at h;split at h
 ·rw[eq_102];exact h
 ·cases h)
theorem abm:ao S0 SS:=ao.step F4 abl L3 Tryz.func101 (by kernel_rfl) (fun ps r h=>by
 unfold gN at h;split at h
 ·rw[eq_101];exact h
 ·cases h)
theorem Xq:ao S0 Oa:=ao.step F4 abm L3 Tryz.func100 (by kernel_rfl) (fun ps r h=>by
 unfold bt at h;split at h
 ·rw[eq_100];exact h
 ·cases h)
theorem Zz(g:Nat)(M:List PV→Option PV)(h:VI g=some M):tG S.P S.aH g M:=by
 unfold VI at h;cases e:Nat.beq g 100 with
 |true=>rw[e]at h;have:=Nat.eq_of_beq_eq_true e;subst this;cases h;exact Xq (100,bt) (ub (by kernel_rfl))
 |false=>rw[e]at h;cases h
theorem aJ:ua S:=⟨by kernel_rfl,(fun g h hh R args f m k r hr=>by
 have hh:(bif Nat.beq g 99 then some (vA 4 VI)else none)=some h:=hh;cases e:Nat.beq g 99 with
 |true=>rw[e]at hh;have:=Nat.eq_of_beq_eq_true e;subst this;cases hh;exact Fz VL rfl ⟨Tryz.f99,_,Tryz.func99,rfl,by kernel_rfl⟩ Tryz.isAgg83 Tryz.sizeOf83 Zz hr
 |false=>rw[e]at hh;cases hh),by kernel_rfl⟩
theorem afp:ao S Oa:=fun x hx=>Xq x hx
theorem dS:fx S bR:=fx.nil S
theorem afq:ao S SN:=ao.step aJ afp dS Tryz.func24 (by kernel_rfl) (fun ps r h=>by
 unfold iq at h;split at h
 ·rw[eq_24];exact h
 ·cases h)
theorem afr:ao S SQ:=ao.step aJ afq dS Tryz.func25 (by kernel_rfl) (fun ps r h=>by
 unfold fZ at h;split at h
 ·rw[eq_25];exact h
 ·cases h)
theorem afs:ao S SU:=ao.step aJ afr dS Tryz.func23 (by kernel_rfl) (fun ps r h=>by
 unfold fK at h;split at h
 ·rw[eq_23];exact h
 ·cases h)
theorem aft:ao S SV:=ao.step aJ afs dS Tryz.func90 (by kernel_rfl) (fun ps r h=>by
 unfold ku at h;split at h
 ·rw[eq_90];exact h
 ·cases h)
theorem afu:ao S SO:=ao.step aJ aft dS Tryz.func77 (by kernel_rfl) (fun ps r h=>by
 unfold dv at h;split at h
 ·rw[eq_77];exact h
 ·cases h)
theorem afv:ao S SR:=ao.step aJ afu dS Tryz.func94 (by kernel_rfl) (fun ps r h=>by
 unfold fi at h;split at h
 ·rw[eq_94];exact h
 ·cases h)
theorem abn:ao S KP:=ao.step aJ afv dS Tryz.func93 (by kernel_rfl) (fun ps r h=>by
 unfold ee at h;split at h
 ·rw[eq_93];exact h
 ·cases h)
theorem abo:ao S K9:=ao.step aJ abn dS Tryz.func50 (by kernel_rfl) (fun ps r h=>by
 unfold gM at h;split at h
 ·rw[eq_50];exact h
 ·cases h)
theorem abp:ao S Kf:=ao.step aJ abo dS Tryz.func49 (by kernel_rfl) (fun ps r h=>by
 unfold du at h;split at h
 ·rw[eq_49];exact h
 ·cases h)
theorem abq:ao S Ky:=ao.step aJ abp dS Tryz.func48 (by kernel_rfl) (fun ps r h=>by
 unfold bH at h;split at h
 ·rw[eq_48];exact h
 ·cases h)
theorem abr:ao S KQ:=ao.step aJ abq dS Tryz.func51 (by kernel_rfl) (fun ps r h=>by
 unfold dV at h;split at h
 ·rw[eq_51];exact h
 ·cases h)
theorem abt:ao S La:=ao.step aJ abr dS Tryz.func52 (by kernel_rfl) (fun ps r h=>by
 unfold fA at h;split at h
 ·rw[eq_52];exact h
 ·cases h)
theorem abu:ao S Kg:=ao.step aJ abt dS Tryz.func27 (by kernel_rfl) (fun ps r h=>by
 unfold cJ at h;split at h
 ·rw[eq_27];exact h
 ·cases h)
theorem abv:ao S Kz:=ao.step aJ abu dS Tryz.func79 (by kernel_rfl) (fun ps r h=>by
 unfold eV at h;split at h
 ·rw[eq_79];exact h
 ·cases h)
theorem abw:ao S KS:=ao.step aJ abv dS Tryz.func43 (by kernel_rfl) (fun ps r h=>by
 unfold aV at h;split at h
 ·rw[eq_43];exact h
 ·cases h)
theorem abx:ao S Lb:=ao.step aJ abw dS Tryz.func78 (by kernel_rfl) (fun ps r h=>by
 unfold bT at h;split at h
 ·rw[eq_78];exact h
 ·cases h)
theorem aby:ao S Kh:=ao.step aJ abx dS Tryz.func45 (by kernel_rfl) (fun ps r h=>by
 unfold cv at h;split at h
 ·rw[eq_45];exact h
 ·cases h)
theorem abz:ao S KA:=ao.step aJ aby dS Tryz.func121 (by kernel_rfl) (fun ps r h=>by
 unfold cB at h;split at h
 ·rw[eq_121];exact h
 ·cases h)
theorem abA:ao S KT:=ao.step aJ abz dS Tryz.func107 (by kernel_rfl) (fun ps r h=>by
 unfold eA at h;split at h
 ·rw[eq_107];exact h
 ·cases h)
theorem abB:ao S Lc:=ao.step aJ abA dS Tryz.func123 (by kernel_rfl) (fun ps r h=>by
 unfold ec at h;split at h
 ·rw[eq_123];exact h
 ·cases h)
theorem abC:ao S Ki:=ao.step aJ abB dS Tryz.func131 (by kernel_rfl) (fun ps r h=>by
 unfold aC at h;split at h
 ·rw[eq_131];exact h
 ·cases h)
theorem abD:ao S KB:=ao.step aJ abC dS Tryz.func110 (by kernel_rfl) (fun ps r h=>by
 unfold dq at h;split at h
 ·rw[eq_110];exact h
 ·cases h)
theorem abE:ao S KU:=ao.step aJ abD dS Tryz.func109 (by kernel_rfl) (fun ps r h=>by
 unfold dz at h;split at h
 ·rw[eq_109];exact h
 ·cases h)
theorem abF:ao S Ld:=ao.step aJ abE dS Tryz.func108 (by kernel_rfl) (fun ps r h=>by
 unfold c7 at h;split at h
 ·rw[eq_108];exact h
 ·cases h)
theorem abG:ao S Kj:=ao.step aJ abF dS Tryz.func103 (by kernel_rfl) (fun ps r h=>by
 unfold dQ at h;split at h
 ·rw[eq_103];exact h
 ·cases h)
theorem abH:ao S KC:=ao.step aJ abG dS Tryz.func97 (by kernel_rfl) (fun ps r h=>by
 unfold cu at h;split at h
 ·rw[eq_97];exact h
 ·cases h)
theorem abI:ao S KV:=ao.step aJ abH dS Tryz.func92 (by kernel_rfl) (fun ps r h=>by
 unfold cZ at h;split at h
 ·rw[eq_92];exact h
 ·cases h)
theorem abJ:ao S Le:=ao.step aJ abI dS Tryz.func91 (by kernel_rfl) (fun ps r h=>by
 unfold ez at h;split at h
 ·rw[eq_91];exact h
 ·cases h)
theorem abK:ao S Kk:=ao.step aJ abJ dS Tryz.func81 (by kernel_rfl) (fun ps r h=>by
 unfold dn at h;split at h
 ·rw[eq_81];exact h
 ·cases h)
theorem abL:ao S KD:=ao.step aJ abK dS Tryz.func47 (by kernel_rfl) (fun ps r h=>by
 unfold bF at h;split at h
 ·rw[eq_47];exact h
 ·cases h)
theorem abM:ao S KW:=ao.step aJ abL dS Tryz.func44 (by kernel_rfl) (fun ps r h=>by
 unfold dm at h;split at h
 ·rw[eq_44];exact h
 ·cases h)
theorem abN:ao S Lf:=ao.step aJ abM dS Tryz.func42 (by kernel_rfl) (fun ps r h=>by
 unfold cH at h;split at h
 ·rw[eq_42];exact h
 ·cases h)
theorem abO:ao S Km:=ao.step aJ abN dS Tryz.func80 (by kernel_rfl) (fun ps r h=>by
 unfold bw at h;split at h
 ·rw[eq_80];exact h
 ·cases h)
theorem abP:ao S KE:=ao.step aJ abO dS Tryz.func46 (by kernel_rfl) (fun ps r h=>by
 unfold da at h;split at h
 ·rw[eq_46];exact h
 ·cases h)
theorem abQ:ao S KX:=ao.step aJ abP dS Tryz.func76 (by kernel_rfl) (fun ps r h=>by
 unfold im at h;split at h
 ·rw[eq_76];exact h
 ·cases h)
theorem abR:ao S Lg:=ao.step aJ abQ dS Tryz.func41 (by kernel_rfl) (fun ps r h=>by
 unfold fY at h;split at h
 ·rw[eq_41];exact h
 ·cases h)
theorem abS:ao S Kn:=ao.step aJ abR dS Tryz.func40 (by kernel_rfl) (fun ps r h=>by
 unfold gL at h;split at h
 ·rw[eq_40];exact h
 ·cases h)
theorem Az:ao S qT:=ao.step aJ abS dS Tryz.func26 (by kernel_rfl) (fun ps r h=>by
 unfold dZ at h;split at h
 ·rw[eq_26];exact h
 ·cases h)
theorem abT:fx S KY:=fx.step aJ Az dS Tryz.func58 (by kernel_rfl) (fun ps r h=>by
 unfold cz at h;split at h
 ·rw[eq_58];exact h
 ·cases h)
theorem abU:fx S Lh:=fx.step aJ Az abT Tryz.func57 (by kernel_rfl) (fun ps r h=>by
 unfold bG at h;split at h
 ·rw[eq_57];exact h
 ·cases h)
theorem abV:fx S Ko:=fx.step aJ Az abU Tryz.func56 (by kernel_rfl) (fun ps r h=>by
 unfold cy at h;split at h
 ·rw[eq_56];exact h
 ·cases h)
theorem abW:fx S KF:=fx.step aJ Az abV Tryz.func59 (by kernel_rfl) (fun ps r h=>by
 unfold bN at h;split at h
 ·rw[eq_59];exact h
 ·cases h)
theorem abX:fx S KZ:=fx.step aJ Az abW Tryz.func54 (by kernel_rfl) (fun ps r h=>by
 unfold ck at h;split at h
 ·rw[eq_54];exact h
 ·cases h)
theorem abY:fx S Li:=fx.step aJ Az abX Tryz.func55 (by kernel_rfl) (fun ps r h=>by
 unfold cO at h;split at h
 ·rw[eq_55];exact h
 ·cases h)
theorem Xr:fx S FA:=fx.step aJ Az abY Tryz.func53 (by kernel_rfl) (fun ps r h=>by
 unfold cw at h;split at h
 ·rw[eq_53];exact h
 ·cases h)
theorem Xs:ao S FC:=ao.step aJ Az Xr Tryz.func12 (by kernel_rfl) (fun ps r h=>by
 unfold bI at h;split at h
 ·rw[eq_12];exact h
 ·cases h)
theorem dJ:fx S cd:=fx.step aJ Xs Xr Tryz.func82 (by kernel_rfl) (fun ps r h=>by
 unfold db at h;split at h
 ·rw[eq_82];exact h
 ·cases h)
theorem abZ:ao S Lj:=ao.step aJ Xs dJ Tryz.func85 (by kernel_rfl) (fun ps r h=>by
 unfold bP at h;split at h
 ·rw[eq_85];exact h
 ·cases h)
theorem ab0:ao S Kp:=ao.step aJ abZ dJ Tryz.func20 (by kernel_rfl) (fun ps r h=>by
 unfold fj at h;split at h
 ·rw[eq_20];exact h
 ·cases h)
theorem ab1:ao S KG:=ao.step aJ ab0 dJ Tryz.func15 (by kernel_rfl) (fun ps r h=>by
 unfold bf at h;split at h
 ·rw[eq_15];exact h
 ·cases h)
theorem ab2:ao S K0:=ao.step aJ ab1 dJ Tryz.func75 (by kernel_rfl) (fun ps r h=>by
 unfold cg at h;split at h
 ·rw[eq_75];exact h
 ·cases h)
theorem ab3:ao S Lk:=ao.step aJ ab2 dJ Tryz.func39 (by kernel_rfl) (fun ps r h=>by
 unfold fy at h;split at h
 ·rw[eq_39];exact h
 ·cases h)
theorem ab4:ao S FB:=ao.step aJ ab3 dJ Tryz.func22 (by kernel_rfl) (fun ps r h=>by
 unfold bW at h;split at h
 ·rw[eq_22];exact h
 ·cases h)
theorem ab5:ao S KH:=ao.step aJ ab4 dJ Tryz.func11 (by kernel_rfl) (fun ps r h=>by
 unfold dD at h;split at h
 ·rw[eq_11];exact h
 ·cases h)
theorem ab6:ao S K1:=ao.step aJ ab5 dJ Tryz.func86 (by kernel_rfl) (fun ps r h=>by
 unfold eg at h;split at h
 ·rw[eq_86];exact h
 ·cases h)
theorem ab7:ao S Ll:=ao.step aJ ab6 dJ Tryz.func87 (by kernel_rfl) (fun ps r h=>by
 unfold bC at h;split at h
 ·rw[eq_87];exact h
 ·cases h)
theorem ab8:ao S Kq:=ao.step aJ ab7 dJ Tryz.func74 (by kernel_rfl) (fun ps r h=>by
 unfold jM at h;split at h
 ·rw[eq_74];exact h
 ·cases h)
theorem ab9:ao S KI:=ao.step aJ ab8 dJ Tryz.func88 (by kernel_rfl) (fun ps r h=>by
 unfold jP at h;split at h
 ·rw[eq_88];exact h
 ·cases h)
theorem aca:ao S K2:=ao.step aJ ab9 dJ Tryz.func72 (by kernel_rfl) (fun ps r h=>by
 unfold lN at h;split at h
 ·rw[eq_72];exact h
 ·cases h)
theorem acb:ao S Ln:=ao.step aJ aca dJ Tryz.func96 (by kernel_rfl) (fun ps r h=>by
 unfold fl at h;split at h
 ·rw[eq_96];exact h
 ·cases h)
theorem acd:ao S Kr:=ao.step aJ acb dJ Tryz.func89 (by kernel_rfl) (fun ps r h=>by
 unfold fC at h;split at h
 ·rw[eq_89];exact h
 ·cases h)
theorem ace:ao S KJ:=ao.step aJ acd dJ Tryz.func73 (by kernel_rfl) (fun ps r h=>by
 unfold jN at h;split at h
 ·rw[eq_73];exact h
 ·cases h)
theorem acf:ao S K3:=ao.step aJ ace dJ Tryz.func70 (by kernel_rfl) (fun ps r h=>by
 unfold iZ at h;split at h
 ·rw[eq_70];exact h
 ·cases h)
theorem acg:ao S Lo:=ao.step aJ acf dJ Tryz.func34 (by kernel_rfl) (fun ps r h=>by
 unfold cq at h;split at h
 ·rw[eq_34];exact h
 ·cases h)
theorem ach:ao S Ks:=ao.step aJ acg dJ Tryz.func71 (by kernel_rfl) (fun ps r h=>by
 unfold nf at h;split at h
 ·rw[eq_71];exact h
 ·cases h)
theorem aci:ao S KK:=ao.step aJ ach dJ Tryz.func69 (by kernel_rfl) (fun ps r h=>by
 unfold jL at h;split at h
 ·rw[eq_69];exact h
 ·cases h)
theorem acj:ao S K4:=ao.step aJ aci dJ Tryz.func38 (by kernel_rfl) (fun ps r h=>by
 unfold jQ at h;split at h
 ·rw[eq_38];exact h
 ·cases h)
theorem ack:ao S Lp:=ao.step aJ acj dJ Tryz.func19 (by kernel_rfl) (fun ps r h=>by
 unfold iu at h;split at h
 ·rw[eq_19];exact h
 ·cases h)
theorem acm:ao S Kt:=ao.step aJ ack dJ Tryz.func10 (by kernel_rfl) (fun ps r h=>by
 unfold jR at h;split at h
 ·rw[eq_10];exact h
 ·cases h)
theorem acn:ao S K5:=ao.step aJ acm dJ Tryz.func13 (by kernel_rfl) (fun ps r h=>by
 unfold gz at h;split at h
 ·rw[eq_13];exact h
 ·cases h)
theorem aco:ao S Lq:=ao.step aJ acn dJ Tryz.func14 (by kernel_rfl) (fun ps r h=>by
 unfold hZ at h;split at h
 ·rw[eq_14];exact h
 ·cases h)
theorem acp:ao S Ku:=ao.step aJ aco dJ Tryz.func37 (by kernel_rfl) (fun ps r h=>by
 unfold fS at h;split at h
 ·rw[eq_37];exact h
 ·cases h)
theorem acq:ao S KL:=ao.step aJ acp dJ Tryz.func68 (by kernel_rfl) (fun ps r h=>by
 unfold fR at h;split at h
 ·rw[eq_68];exact h
 ·cases h)
theorem acr:ao S K6:=ao.step aJ acq dJ Tryz.func36 (by kernel_rfl) (fun ps r h=>by
 unfold gv at h;split at h
 ·rw[eq_36];exact h
 ·cases h)
theorem acs:ao S Lr:=ao.step aJ acr dJ Tryz.func17 (by kernel_rfl) (fun ps r h=>by
 unfold fk at h;split at h
 ·rw[eq_17];exact h
 ·cases h)
theorem acu:ao S Kv:=ao.step aJ acs dJ Tryz.func67 (by kernel_rfl) (fun ps r h=>by
 unfold iv at h;split at h
 ·rw[eq_67];exact h
 ·cases h)
theorem acv:ao S KM:=ao.step aJ acu dJ Tryz.func65 (by kernel_rfl) (fun ps r h=>by
 unfold ic at h;split at h
 ·rw[eq_65];exact h
 ·cases h)
theorem acw:ao S K7:=ao.step aJ acv dJ Tryz.func66 (by kernel_rfl) (fun ps r h=>by
 unfold jS at h;split at h
 ·rw[eq_66];exact h
 ·cases h)
theorem acx:ao S Lt:=ao.step aJ acw dJ Tryz.func33 (by kernel_rfl) (fun ps r h=>by
 unfold fT at h;split at h
 ·rw[eq_33];exact h
 ·cases h)
theorem acy:ao S Kw:=ao.step aJ acx dJ Tryz.func63 (by kernel_rfl) (fun ps r h=>by
 unfold lX at h;split at h
 ·rw[eq_63];exact h
 ·cases h)
theorem acz:ao S KN:=ao.step aJ acy dJ Tryz.func64 (by kernel_rfl) (fun ps r h=>by
 unfold jT at h;split at h
 ·rw[eq_64];exact h
 ·cases h)
theorem Xt:ao S FD:=ao.step aJ acz dJ Tryz.func30 (by kernel_rfl) (fun ps r h=>by
 unfold jU at h;split at h
 ·rw[eq_30];exact h
 ·cases h)
theorem V6:fx S ((32,gT)::cd):=fx.step aJ Xt dJ Tryz.func32 (by kernel_rfl) (fun ps r h=>by
 unfold gT at h;split at h
 ·rw[eq_32];exact h
 ·cases h)
theorem V7:fx S HA:=fun x hx=>(List.mem_cons.1 hx).elim (fun e=>V6 x (e▸List.mem_cons_self)) (fun h=>dJ x h)
theorem acA:ao S Kx:=ao.step aJ Xt V7 Tryz.func31 (by kernel_rfl) (fun ps r h=>by
 unfold jV at h;split at h
 ·rw[eq_31];exact h
 ·cases h)
theorem acB:ao S KO:=ao.step aJ acA dJ Tryz.func35 (by kernel_rfl) (fun ps r h=>by
 unfold bU at h;split at h
 ·rw[eq_35];exact h
 ·cases h)
theorem acC:ao S K8:=ao.step aJ acB dJ Tryz.func16 (by kernel_rfl) (fun ps r h=>by
 unfold jW at h;split at h
 ·rw[eq_16];exact h
 ·cases h)
theorem acD:ao S Tu:=ao.step aJ acC dJ Tryz.func4 (by kernel_rfl) (fun ps r h=>by
 unfold dU at h;split at h
 ·rw[eq_4];exact h
 ·cases h)
end Go.Proofs.YtcmhmlnkhmefbaaGreat
