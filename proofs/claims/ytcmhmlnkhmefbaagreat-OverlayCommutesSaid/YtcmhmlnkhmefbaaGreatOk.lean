import Derived.Test.YtcmhmlnkhmefbaaGreatEq1
import Derived.Test.YtcmhmlnkhmefbaaGreatEq2
import Derived.Test.YtcmhmlnkhmefbaaGreatEq3
import Derived.Test.YtcmhmlnkhmefbaaGreatEq4
import Derived.Test.YtcmhmlnkhmefbaaGreatLays
import Derived.Test.YtcmhmlnkhmefbaaGreatAbSortKOk
namespace Go.Proofs.YtcmhmlnkhmefbaaGreat
open Go.Ab
theorem Fj:tF S0:=⟨by kernel_rfl,(fun g h hh=>by cases hh),by kernel_rfl⟩
theorem aaX:ar S0 RH:=ar.nil S0
theorem K6:fW S0 bS:=fW.nil S0
theorem aaY:ar S0 RL:=ar.step Fj aaX K6 Tryz.func102 (by kernel_rfl) (fun ps r h=>by
 unfold cU at h;split at h
 ·rw[eq_102];exact h
 ·cases h)
theorem aaZ:ar S0 RO:=ar.step Fj aaY K6 Tryz.func101 (by kernel_rfl) (fun ps r h=>by
 unfold gK at h;split at h
 ·rw[eq_101];exact h
 ·cases h)
theorem Wi:ar S0 MZ:=ar.step Fj aaZ K6 Tryz.func100 (by kernel_rfl) (fun ps r h=>by
 unfold bq at h;split at h
 ·rw[eq_100];exact h
 ·cases h)
theorem Yh(g:Nat)(M:List PV→Option PV)(h:UK g=some M):tf S.P S.aH g M:=by
 unfold UK at h;cases e:Nat.beq g 100 with
 |true=>rw[e]at h;have:=Nat.eq_of_beq_eq_true e;subst this;cases h;exact Wi (100,bq) (tG (by kernel_rfl))
 |false=>rw[e]at h;cases h
theorem aO:tF S:=⟨by kernel_rfl,(fun g h hh R args f m k r hr=>by
 have hh:(bif Nat.beq g 99 then some (uV 4 UK)else none)=some h:=hh;cases e:Nat.beq g 99 with
 |true=>rw[e]at hh;have:=Nat.eq_of_beq_eq_true e;subst this;cases hh;exact EM UN rfl ⟨Tryz.f99,_,Tryz.func99,rfl,by kernel_rfl⟩ Tryz.isAgg83 Tryz.sizeOf83 Yh hr
 |false=>rw[e]at hh;cases hh),by kernel_rfl⟩
theorem aeI:ar S MZ:=fun x hx=>Wi x hx
theorem dU:fW S bS:=fW.nil S
theorem aeJ:ar S RI:=ar.step aO aeI dU Tryz.func24 (by kernel_rfl) (fun ps r h=>by
 unfold hT at h;split at h
 ·rw[eq_24];exact h
 ·cases h)
theorem aeK:ar S RM:=ar.step aO aeJ dU Tryz.func25 (by kernel_rfl) (fun ps r h=>by
 unfold fU at h;split at h
 ·rw[eq_25];exact h
 ·cases h)
theorem aeL:ar S RP:=ar.step aO aeK dU Tryz.func23 (by kernel_rfl) (fun ps r h=>by
 unfold fG at h;split at h
 ·rw[eq_23];exact h
 ·cases h)
theorem aeM:ar S RQ:=ar.step aO aeL dU Tryz.func90 (by kernel_rfl) (fun ps r h=>by
 unfold j3 at h;split at h
 ·rw[eq_90];exact h
 ·cases h)
theorem aeN:ar S RJ:=ar.step aO aeM dU Tryz.func77 (by kernel_rfl) (fun ps r h=>by
 unfold dv at h;split at h
 ·rw[eq_77];exact h
 ·cases h)
theorem aeO:ar S RN:=ar.step aO aeN dU Tryz.func94 (by kernel_rfl) (fun ps r h=>by
 unfold e9 at h;split at h
 ·rw[eq_94];exact h
 ·cases h)
theorem aa0:ar S J3:=ar.step aO aeO dU Tryz.func93 (by kernel_rfl) (fun ps r h=>by
 unfold ec at h;split at h
 ·rw[eq_93];exact h
 ·cases h)
theorem aa1:ar S Km:=ar.step aO aa0 dU Tryz.func50 (by kernel_rfl) (fun ps r h=>by
 unfold gJ at h;split at h
 ·rw[eq_50];exact h
 ·cases h)
theorem aa2:ar S JA:=ar.step aO aa1 dU Tryz.func49 (by kernel_rfl) (fun ps r h=>by
 unfold dt at h;split at h
 ·rw[eq_49];exact h
 ·cases h)
theorem aa3:ar S JP:=ar.step aO aa2 dU Tryz.func48 (by kernel_rfl) (fun ps r h=>by
 unfold bG at h;split at h
 ·rw[eq_48];exact h
 ·cases h)
theorem aa4:ar S J4:=ar.step aO aa3 dU Tryz.func51 (by kernel_rfl) (fun ps r h=>by
 unfold dV at h;split at h
 ·rw[eq_51];exact h
 ·cases h)
theorem aa5:ar S Kn:=ar.step aO aa4 dU Tryz.func52 (by kernel_rfl) (fun ps r h=>by
 unfold fm at h;split at h
 ·rw[eq_52];exact h
 ·cases h)
theorem aa6:ar S JB:=ar.step aO aa5 dU Tryz.func27 (by kernel_rfl) (fun ps r h=>by
 unfold cM at h;split at h
 ·rw[eq_27];exact h
 ·cases h)
theorem aa7:ar S JQ:=ar.step aO aa6 dU Tryz.func79 (by kernel_rfl) (fun ps r h=>by
 unfold eT at h;split at h
 ·rw[eq_79];exact h
 ·cases h)
theorem aa8:ar S J5:=ar.step aO aa7 dU Tryz.func43 (by kernel_rfl) (fun ps r h=>by
 unfold aT at h;split at h
 ·rw[eq_43];exact h
 ·cases h)
theorem aa9:ar S Ko:=ar.step aO aa8 dU Tryz.func78 (by kernel_rfl) (fun ps r h=>by
 unfold bU at h;split at h
 ·rw[eq_78];exact h
 ·cases h)
theorem aba:ar S JC:=ar.step aO aa9 dU Tryz.func45 (by kernel_rfl) (fun ps r h=>by
 unfold cv at h;split at h
 ·rw[eq_45];exact h
 ·cases h)
theorem abb:ar S JR:=ar.step aO aba dU Tryz.func121 (by kernel_rfl) (fun ps r h=>by
 unfold cB at h;split at h
 ·rw[eq_121];exact h
 ·cases h)
theorem abc:ar S J6:=ar.step aO abb dU Tryz.func107 (by kernel_rfl) (fun ps r h=>by
 unfold eB at h;split at h
 ·rw[eq_107];exact h
 ·cases h)
theorem abd:ar S Kp:=ar.step aO abc dU Tryz.func123 (by kernel_rfl) (fun ps r h=>by
 unfold dZ at h;split at h
 ·rw[eq_123];exact h
 ·cases h)
theorem abe:ar S JD:=ar.step aO abd dU Tryz.func131 (by kernel_rfl) (fun ps r h=>by
 unfold aC at h;split at h
 ·rw[eq_131];exact h
 ·cases h)
theorem abf:ar S JS:=ar.step aO abe dU Tryz.func110 (by kernel_rfl) (fun ps r h=>by
 unfold dq at h;split at h
 ·rw[eq_110];exact h
 ·cases h)
theorem abg:ar S J7:=ar.step aO abf dU Tryz.func109 (by kernel_rfl) (fun ps r h=>by
 unfold dA at h;split at h
 ·rw[eq_109];exact h
 ·cases h)
theorem abh:ar S Kq:=ar.step aO abg dU Tryz.func108 (by kernel_rfl) (fun ps r h=>by
 unfold c7 at h;split at h
 ·rw[eq_108];exact h
 ·cases h)
theorem abi:ar S JE:=ar.step aO abh dU Tryz.func103 (by kernel_rfl) (fun ps r h=>by
 unfold dR at h;split at h
 ·rw[eq_103];exact h
 ·cases h)
theorem abj:ar S JT:=ar.step aO abi dU Tryz.func97 (by kernel_rfl) (fun ps r h=>by
 unfold cu at h;split at h
 ·rw[eq_97];exact h
 ·cases h)
theorem abk:ar S J8:=ar.step aO abj dU Tryz.func92 (by kernel_rfl) (fun ps r h=>by
 unfold cZ at h;split at h
 ·rw[eq_92];exact h
 ·cases h)
theorem abl:ar S Kr:=ar.step aO abk dU Tryz.func91 (by kernel_rfl) (fun ps r h=>by
 unfold eA at h;split at h
 ·rw[eq_91];exact h
 ·cases h)
theorem abm:ar S JF:=ar.step aO abl dU Tryz.func81 (by kernel_rfl) (fun ps r h=>by
 unfold dn at h;split at h
 ·rw[eq_81];exact h
 ·cases h)
theorem abn:ar S JU:=ar.step aO abm dU Tryz.func47 (by kernel_rfl) (fun ps r h=>by
 unfold bE at h;split at h
 ·rw[eq_47];exact h
 ·cases h)
theorem abo:ar S J9:=ar.step aO abn dU Tryz.func44 (by kernel_rfl) (fun ps r h=>by
 unfold dm at h;split at h
 ·rw[eq_44];exact h
 ·cases h)
theorem abp:ar S Ks:=ar.step aO abo dU Tryz.func42 (by kernel_rfl) (fun ps r h=>by
 unfold cL at h;split at h
 ·rw[eq_42];exact h
 ·cases h)
theorem abq:ar S JG:=ar.step aO abp dU Tryz.func80 (by kernel_rfl) (fun ps r h=>by
 unfold bu at h;split at h
 ·rw[eq_80];exact h
 ·cases h)
theorem abr:ar S JV:=ar.step aO abq dU Tryz.func46 (by kernel_rfl) (fun ps r h=>by
 unfold da at h;split at h
 ·rw[eq_46];exact h
 ·cases h)
theorem abt:ar S Ka:=ar.step aO abr dU Tryz.func76 (by kernel_rfl) (fun ps r h=>by
 unfold gZ at h;split at h
 ·rw[eq_76];exact h
 ·cases h)
theorem abu:ar S Kt:=ar.step aO abt dU Tryz.func41 (by kernel_rfl) (fun ps r h=>by
 unfold fT at h;split at h
 ·rw[eq_41];exact h
 ·cases h)
theorem abv:ar S JH:=ar.step aO abu dU Tryz.func40 (by kernel_rfl) (fun ps r h=>by
 unfold gI at h;split at h
 ·rw[eq_40];exact h
 ·cases h)
theorem zM:ar S qz:=ar.step aO abv dU Tryz.func26 (by kernel_rfl) (fun ps r h=>by
 unfold dY at h;split at h
 ·rw[eq_26];exact h
 ·cases h)
theorem abw:fW S Kb:=fW.step aO zM dU Tryz.func58 (by kernel_rfl) (fun ps r h=>by
 unfold cz at h;split at h
 ·rw[eq_58];exact h
 ·cases h)
theorem abx:fW S Ku:=fW.step aO zM abw Tryz.func57 (by kernel_rfl) (fun ps r h=>by
 unfold bF at h;split at h
 ·rw[eq_57];exact h
 ·cases h)
theorem aby:fW S JI:=fW.step aO zM abx Tryz.func56 (by kernel_rfl) (fun ps r h=>by
 unfold cy at h;split at h
 ·rw[eq_56];exact h
 ·cases h)
theorem abz:fW S JW:=fW.step aO zM aby Tryz.func59 (by kernel_rfl) (fun ps r h=>by
 unfold bN at h;split at h
 ·rw[eq_59];exact h
 ·cases h)
theorem abA:fW S Kc:=fW.step aO zM abz Tryz.func54 (by kernel_rfl) (fun ps r h=>by
 unfold cj at h;split at h
 ·rw[eq_54];exact h
 ·cases h)
theorem abB:fW S Kv:=fW.step aO zM abA Tryz.func55 (by kernel_rfl) (fun ps r h=>by
 unfold cQ at h;split at h
 ·rw[eq_55];exact h
 ·cases h)
theorem Wj:fW S EO:=fW.step aO zM abB Tryz.func53 (by kernel_rfl) (fun ps r h=>by
 unfold cw at h;split at h
 ·rw[eq_53];exact h
 ·cases h)
theorem Wk:ar S ER:=ar.step aO zM Wj Tryz.func12 (by kernel_rfl) (fun ps r h=>by
 unfold bH at h;split at h
 ·rw[eq_12];exact h
 ·cases h)
theorem fY:fW S dJ:=fW.step aO Wk Wj Tryz.func82 (by kernel_rfl) (fun ps r h=>by
 unfold db at h;split at h
 ·rw[eq_82];exact h
 ·cases h)
theorem abC:ar S Kw:=ar.step aO Wk fY Tryz.func85 (by kernel_rfl) (fun ps r h=>by
 unfold bP at h;split at h
 ·rw[eq_85];exact h
 ·cases h)
theorem abD:ar S JJ:=ar.step aO abC fY Tryz.func20 (by kernel_rfl) (fun ps r h=>by
 unfold du at h;split at h
 ·rw[eq_20];exact h
 ·cases h)
theorem abE:ar S JX:=ar.step aO abD fY Tryz.func15 (by kernel_rfl) (fun ps r h=>by
 unfold bg at h;split at h
 ·rw[eq_15];exact h
 ·cases h)
theorem abF:ar S Ke:=ar.step aO abE fY Tryz.func75 (by kernel_rfl) (fun ps r h=>by
 unfold cg at h;split at h
 ·rw[eq_75];exact h
 ·cases h)
theorem abG:ar S Kx:=ar.step aO abF fY Tryz.func39 (by kernel_rfl) (fun ps r h=>by
 unfold fl at h;split at h
 ·rw[eq_39];exact h
 ·cases h)
theorem abH:ar S EP:=ar.step aO abG fY Tryz.func22 (by kernel_rfl) (fun ps r h=>by
 unfold bX at h;split at h
 ·rw[eq_22];exact h
 ·cases h)
theorem abI:ar S JY:=ar.step aO abH fY Tryz.func11 (by kernel_rfl) (fun ps r h=>by
 unfold dE at h;split at h
 ·rw[eq_11];exact h
 ·cases h)
theorem abJ:ar S Kf:=ar.step aO abI fY Tryz.func86 (by kernel_rfl) (fun ps r h=>by
 unfold ee at h;split at h
 ·rw[eq_86];exact h
 ·cases h)
theorem abK:ar S Ky:=ar.step aO abJ fY Tryz.func87 (by kernel_rfl) (fun ps r h=>by
 unfold bD at h;split at h
 ·rw[eq_87];exact h
 ·cases h)
theorem abL:ar S JK:=ar.step aO abK fY Tryz.func74 (by kernel_rfl) (fun ps r h=>by
 unfold jB at h;split at h
 ·rw[eq_74];exact h
 ·cases h)
theorem abM:ar S JZ:=ar.step aO abL fY Tryz.func88 (by kernel_rfl) (fun ps r h=>by
 unfold jF at h;split at h
 ·rw[eq_88];exact h
 ·cases h)
theorem abN:ar S Kg:=ar.step aO abM fY Tryz.func72 (by kernel_rfl) (fun ps r h=>by
 unfold lv at h;split at h
 ·rw[eq_72];exact h
 ·cases h)
theorem abO:ar S Kz:=ar.step aO abN fY Tryz.func96 (by kernel_rfl) (fun ps r h=>by
 unfold fe at h;split at h
 ·rw[eq_96];exact h
 ·cases h)
theorem abP:ar S JL:=ar.step aO abO fY Tryz.func89 (by kernel_rfl) (fun ps r h=>by
 unfold fp at h;split at h
 ·rw[eq_89];exact h
 ·cases h)
theorem abQ:ar S J0:=ar.step aO abP fY Tryz.func73 (by kernel_rfl) (fun ps r h=>by
 unfold jD at h;split at h
 ·rw[eq_73];exact h
 ·cases h)
theorem abR:ar S Kh:=ar.step aO abQ fY Tryz.func70 (by kernel_rfl) (fun ps r h=>by
 unfold iS at h;split at h
 ·rw[eq_70];exact h
 ·cases h)
theorem abS:ar S KA:=ar.step aO abR fY Tryz.func34 (by kernel_rfl) (fun ps r h=>by
 unfold jC at h;split at h
 ·rw[eq_34];exact h
 ·cases h)
theorem abT:ar S JM:=ar.step aO abS fY Tryz.func71 (by kernel_rfl) (fun ps r h=>by
 unfold mM at h;split at h
 ·rw[eq_71];exact h
 ·cases h)
theorem abU:ar S J1:=ar.step aO abT fY Tryz.func69 (by kernel_rfl) (fun ps r h=>by
 unfold jA at h;split at h
 ·rw[eq_69];exact h
 ·cases h)
theorem abV:ar S Ki:=ar.step aO abU fY Tryz.func38 (by kernel_rfl) (fun ps r h=>by
 unfold jG at h;split at h
 ·rw[eq_38];exact h
 ·cases h)
theorem abW:ar S KB:=ar.step aO abV fY Tryz.func19 (by kernel_rfl) (fun ps r h=>by
 unfold jH at h;split at h
 ·rw[eq_19];exact h
 ·cases h)
theorem abX:ar S Kj:=ar.step aO abW fY Tryz.func10 (by kernel_rfl) (fun ps r h=>by
 unfold jI at h;split at h
 ·rw[eq_10];exact h
 ·cases h)
theorem abY:ar S KC:=ar.step aO abX fY Tryz.func14 (by kernel_rfl) (fun ps r h=>by
 unfold fH at h;split at h
 ·rw[eq_14];exact h
 ·cases h)
theorem abZ:ar S JN:=ar.step aO abY fY Tryz.func37 (by kernel_rfl) (fun ps r h=>by
 unfold fO at h;split at h
 ·rw[eq_37];exact h
 ·cases h)
theorem ab0:ar S J2:=ar.step aO abZ fY Tryz.func68 (by kernel_rfl) (fun ps r h=>by
 unfold fN at h;split at h
 ·rw[eq_68];exact h
 ·cases h)
theorem ab1:ar S Kk:=ar.step aO ab0 fY Tryz.func36 (by kernel_rfl) (fun ps r h=>by
 unfold gp at h;split at h
 ·rw[eq_36];exact h
 ·cases h)
theorem ab2:ar S JO:=ar.step aO ab1 fY Tryz.func17 (by kernel_rfl) (fun ps r h=>by
 unfold fa at h;split at h
 ·rw[eq_17];exact h
 ·cases h)
theorem ab3:ar S Sn:=ar.step aO ab2 fY Tryz.func8 (by kernel_rfl) (fun ps r h=>by
 unfold dF at h;split at h
 ·rw[eq_8];exact h
 ·cases h)
end Go.Proofs.YtcmhmlnkhmefbaaGreat
