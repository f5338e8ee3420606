import Derived.Test.YtcmhmlnkhmefbaaGreatEq1
import Derived.Test.YtcmhmlnkhmefbaaGreatEq2
import Derived.Test.YtcmhmlnkhmefbaaGreatEq3
import Derived.Test.YtcmhmlnkhmefbaaGreatEq4
import Derived.Test.YtcmhmlnkhmefbaaGreatLays
import Derived.Test.YtcmhmlnkhmefbaaGreatAbSortKOk
namespace Go.Proofs.YtcmhmlnkhmefbaaGreat
open Go.Ab
theorem Fh:tK S0:=⟨by kernel_rfl,(fun g h hh=>by cases hh),by kernel_rfl⟩
theorem aaR:au S0 RC:=au.nil S0
theorem KV:fW S0 bS:=fW.nil S0
theorem aaS:au S0 RF:=au.step Fh aaR KV Tryz.func102 (by kernel_rfl) (fun ps r h=>by
 unfold cV at h;split at h
 ·rw[eq_102];exact h
 ·cases h)
theorem aaT:au S0 RI:=au.step Fh aaS KV Tryz.func101 (by kernel_rfl) (fun ps r h=>by
 unfold gK at h;split at h
 ·rw[eq_101];exact h
 ·cases h)
theorem V1:au S0 MQ:=au.step Fh aaT KV Tryz.func100 (by kernel_rfl) (fun ps r h=>by
 unfold bq at h;split at h
 ·rw[eq_100];exact h
 ·cases h)
theorem XY(g:Nat)(M:List PV→Option PV)(h:Ut g=some M):tn S.P S.aI g M:=by
 unfold Ut at h;cases e:Nat.beq g 100 with
 |true=>rw[e]at h;have:=Nat.eq_of_beq_eq_true e;subst this;cases h;exact V1 (100,bq) (tL (by kernel_rfl))
 |false=>rw[e]at h;cases h
theorem aP:tK S:=⟨by kernel_rfl,(fun g h hh R args f m k r hr=>by
 have hh:(bif Nat.beq g 99 then some (uZ 4 Ut)else none)=some h:=hh;cases e:Nat.beq g 99 with
 |true=>rw[e]at hh;have:=Nat.eq_of_beq_eq_true e;subst this;cases hh;exact EL Uw rfl ⟨Tryz.f99,_,Tryz.func99,rfl,by kernel_rfl⟩ Tryz.isAgg83 Tryz.sizeOf83 XY hr
 |false=>rw[e]at hh;cases hh),by kernel_rfl⟩
theorem aeC:au S MQ:=fun x hx=>V1 x hx
theorem dU:fW S bS:=fW.nil S
theorem aeD:au S RD:=au.step aP aeC dU Tryz.func24 (by kernel_rfl) (fun ps r h=>by
 unfold hU at h;split at h
 ·rw[eq_24];exact h
 ·cases h)
theorem aeE:au S RG:=au.step aP aeD dU Tryz.func25 (by kernel_rfl) (fun ps r h=>by
 unfold fT at h;split at h
 ·rw[eq_25];exact h
 ·cases h)
theorem aeF:au S RJ:=au.step aP aeE dU Tryz.func23 (by kernel_rfl) (fun ps r h=>by
 unfold fG at h;split at h
 ·rw[eq_23];exact h
 ·cases h)
theorem aeG:au S RL:=au.step aP aeF dU Tryz.func90 (by kernel_rfl) (fun ps r h=>by
 unfold j6 at h;split at h
 ·rw[eq_90];exact h
 ·cases h)
theorem aeH:au S RE:=au.step aP aeG dU Tryz.func77 (by kernel_rfl) (fun ps r h=>by
 unfold dx at h;split at h
 ·rw[eq_77];exact h
 ·cases h)
theorem aeI:au S RH:=au.step aP aeH dU Tryz.func94 (by kernel_rfl) (fun ps r h=>by
 unfold e8 at h;split at h
 ·rw[eq_94];exact h
 ·cases h)
theorem aaU:au S JS:=au.step aP aeI dU Tryz.func93 (by kernel_rfl) (fun ps r h=>by
 unfold ee at h;split at h
 ·rw[eq_93];exact h
 ·cases h)
theorem aaV:au S J9:=au.step aP aaU dU Tryz.func50 (by kernel_rfl) (fun ps r h=>by
 unfold gJ at h;split at h
 ·rw[eq_50];exact h
 ·cases h)
theorem aaW:au S Jp:=au.step aP aaV dU Tryz.func49 (by kernel_rfl) (fun ps r h=>by
 unfold dv at h;split at h
 ·rw[eq_49];exact h
 ·cases h)
theorem aaX:au S JD:=au.step aP aaW dU Tryz.func48 (by kernel_rfl) (fun ps r h=>by
 unfold bH at h;split at h
 ·rw[eq_48];exact h
 ·cases h)
theorem aaY:au S JT:=au.step aP aaX dU Tryz.func51 (by kernel_rfl) (fun ps r h=>by
 unfold dW at h;split at h
 ·rw[eq_51];exact h
 ·cases h)
theorem aaZ:au S Ka:=au.step aP aaY dU Tryz.func52 (by kernel_rfl) (fun ps r h=>by
 unfold fo at h;split at h
 ·rw[eq_52];exact h
 ·cases h)
theorem aa0:au S Jq:=au.step aP aaZ dU Tryz.func27 (by kernel_rfl) (fun ps r h=>by
 unfold cM at h;split at h
 ·rw[eq_27];exact h
 ·cases h)
theorem aa1:au S JE:=au.step aP aa0 dU Tryz.func79 (by kernel_rfl) (fun ps r h=>by
 unfold eT at h;split at h
 ·rw[eq_79];exact h
 ·cases h)
theorem aa2:au S JU:=au.step aP aa1 dU Tryz.func43 (by kernel_rfl) (fun ps r h=>by
 unfold aU at h;split at h
 ·rw[eq_43];exact h
 ·cases h)
theorem aa3:au S Kb:=au.step aP aa2 dU Tryz.func78 (by kernel_rfl) (fun ps r h=>by
 unfold bW at h;split at h
 ·rw[eq_78];exact h
 ·cases h)
theorem aa4:au S Jr:=au.step aP aa3 dU Tryz.func45 (by kernel_rfl) (fun ps r h=>by
 unfold cw at h;split at h
 ·rw[eq_45];exact h
 ·cases h)
theorem aa5:au S JF:=au.step aP aa4 dU Tryz.func121 (by kernel_rfl) (fun ps r h=>by
 unfold cC at h;split at h
 ·rw[eq_121];exact h
 ·cases h)
theorem aa6:au S JV:=au.step aP aa5 dU Tryz.func107 (by kernel_rfl) (fun ps r h=>by
 unfold eC at h;split at h
 ·rw[eq_107];exact h
 ·cases h)
theorem aa7:au S Kc:=au.step aP aa6 dU Tryz.func123 (by kernel_rfl) (fun ps r h=>by
 unfold ec at h;split at h
 ·rw[eq_123];exact h
 ·cases h)
theorem aa8:au S Js:=au.step aP aa7 dU Tryz.func131 (by kernel_rfl) (fun ps r h=>by
 unfold aD at h;split at h
 ·rw[eq_131];exact h
 ·cases h)
theorem aa9:au S JG:=au.step aP aa8 dU Tryz.func110 (by kernel_rfl) (fun ps r h=>by
 unfold dt at h;split at h
 ·rw[eq_110];exact h
 ·cases h)
theorem aba:au S JW:=au.step aP aa9 dU Tryz.func109 (by kernel_rfl) (fun ps r h=>by
 unfold dC at h;split at h
 ·rw[eq_109];exact h
 ·cases h)
theorem abb:au S Ke:=au.step aP aba dU Tryz.func108 (by kernel_rfl) (fun ps r h=>by
 unfold c8 at h;split at h
 ·rw[eq_108];exact h
 ·cases h)
theorem abc:au S Jt:=au.step aP abb dU Tryz.func103 (by kernel_rfl) (fun ps r h=>by
 unfold dS at h;split at h
 ·rw[eq_103];exact h
 ·cases h)
theorem abd:au S JH:=au.step aP abc dU Tryz.func97 (by kernel_rfl) (fun ps r h=>by
 unfold cv at h;split at h
 ·rw[eq_97];exact h
 ·cases h)
theorem abe:au S JX:=au.step aP abd dU Tryz.func92 (by kernel_rfl) (fun ps r h=>by
 unfold c7 at h;split at h
 ·rw[eq_92];exact h
 ·cases h)
theorem abf:au S Kf:=au.step aP abe dU Tryz.func91 (by kernel_rfl) (fun ps r h=>by
 unfold eB at h;split at h
 ·rw[eq_91];exact h
 ·cases h)
theorem abg:au S Ju:=au.step aP abf dU Tryz.func81 (by kernel_rfl) (fun ps r h=>by
 unfold dr at h;split at h
 ·rw[eq_81];exact h
 ·cases h)
theorem abh:au S JI:=au.step aP abg dU Tryz.func47 (by kernel_rfl) (fun ps r h=>by
 unfold bF at h;split at h
 ·rw[eq_47];exact h
 ·cases h)
theorem abi:au S JY:=au.step aP abh dU Tryz.func44 (by kernel_rfl) (fun ps r h=>by
 unfold dq at h;split at h
 ·rw[eq_44];exact h
 ·cases h)
theorem abj:au S Kg:=au.step aP abi dU Tryz.func42 (by kernel_rfl) (fun ps r h=>by
 unfold cL at h;split at h
 ·rw[eq_42];exact h
 ·cases h)
theorem abk:au S Jv:=au.step aP abj dU Tryz.func80 (by kernel_rfl) (fun ps r h=>by
 unfold bt at h;split at h
 ·rw[eq_80];exact h
 ·cases h)
theorem abl:au S JJ:=au.step aP abk dU Tryz.func46 (by kernel_rfl) (fun ps r h=>by
 unfold dc at h;split at h
 ·rw[eq_46];exact h
 ·cases h)
theorem abm:au S JZ:=au.step aP abl dU Tryz.func76 (by kernel_rfl) (fun ps r h=>by
 unfold hT at h;split at h
 ·rw[eq_76];exact h
 ·cases h)
theorem abn:au S Kh:=au.step aP abm dU Tryz.func41 (by kernel_rfl) (fun ps r h=>by
 unfold fS at h;split at h
 ·rw[eq_41];exact h
 ·cases h)
theorem abo:au S Jw:=au.step aP abn dU Tryz.func40 (by kernel_rfl) (fun ps r h=>by
 unfold gI at h;split at h
 ·rw[eq_40];exact h
 ·cases h)
theorem zQ:au S qA:=au.step aP abo dU Tryz.func26 (by kernel_rfl) (fun ps r h=>by
 unfold dZ at h;split at h
 ·rw[eq_26];exact h
 ·cases h)
theorem abp:fW S J0:=fW.step aP zQ dU Tryz.func58 (by kernel_rfl) (fun ps r h=>by
 unfold cA at h;split at h
 ·rw[eq_58];exact h
 ·cases h)
theorem abq:fW S Ki:=fW.step aP zQ abp Tryz.func57 (by kernel_rfl) (fun ps r h=>by
 unfold bG at h;split at h
 ·rw[eq_57];exact h
 ·cases h)
theorem abr:fW S Jx:=fW.step aP zQ abq Tryz.func56 (by kernel_rfl) (fun ps r h=>by
 unfold cz at h;split at h
 ·rw[eq_56];exact h
 ·cases h)
theorem abt:fW S JK:=fW.step aP zQ abr Tryz.func59 (by kernel_rfl) (fun ps r h=>by
 unfold bN at h;split at h
 ·rw[eq_59];exact h
 ·cases h)
theorem abu:fW S J1:=fW.step aP zQ abt Tryz.func54 (by kernel_rfl) (fun ps r h=>by
 unfold ck at h;split at h
 ·rw[eq_54];exact h
 ·cases h)
theorem abv:fW S Kj:=fW.step aP zQ abu Tryz.func55 (by kernel_rfl) (fun ps r h=>by
 unfold cR at h;split at h
 ·rw[eq_55];exact h
 ·cases h)
theorem V2:fW S EM:=fW.step aP zQ abv Tryz.func53 (by kernel_rfl) (fun ps r h=>by
 unfold cy at h;split at h
 ·rw[eq_53];exact h
 ·cases h)
theorem V3:au S EO:=au.step aP zQ V2 Tryz.func12 (by kernel_rfl) (fun ps r h=>by
 unfold bI at h;split at h
 ·rw[eq_12];exact h
 ·cases h)
theorem fY:fW S dK:=fW.step aP V3 V2 Tryz.func82 (by kernel_rfl) (fun ps r h=>by
 unfold dd at h;split at h
 ·rw[eq_82];exact h
 ·cases h)
theorem abw:au S Kk:=au.step aP V3 fY Tryz.func85 (by kernel_rfl) (fun ps r h=>by
 unfold bP at h;split at h
 ·rw[eq_85];exact h
 ·cases h)
theorem abx:au S Jy:=au.step aP abw fY Tryz.func20 (by kernel_rfl) (fun ps r h=>by
 unfold e9 at h;split at h
 ·rw[eq_20];exact h
 ·cases h)
theorem aby:au S JL:=au.step aP abx fY Tryz.func15 (by kernel_rfl) (fun ps r h=>by
 unfold aY at h;split at h
 ·rw[eq_15];exact h
 ·cases h)
theorem abz:au S J2:=au.step aP aby fY Tryz.func75 (by kernel_rfl) (fun ps r h=>by
 unfold cj at h;split at h
 ·rw[eq_75];exact h
 ·cases h)
theorem abA:au S Km:=au.step aP abz fY Tryz.func39 (by kernel_rfl) (fun ps r h=>by
 unfold fm at h;split at h
 ·rw[eq_39];exact h
 ·cases h)
theorem abB:au S EN:=au.step aP abA fY Tryz.func22 (by kernel_rfl) (fun ps r h=>by
 unfold bY at h;split at h
 ·rw[eq_22];exact h
 ·cases h)
theorem abC:au S JM:=au.step aP abB fY Tryz.func11 (by kernel_rfl) (fun ps r h=>by
 unfold db at h;split at h
 ·rw[eq_11];exact h
 ·cases h)
theorem abD:au S J3:=au.step aP abC fY Tryz.func86 (by kernel_rfl) (fun ps r h=>by
 unfold ef at h;split at h
 ·rw[eq_86];exact h
 ·cases h)
theorem abE:au S Kn:=au.step aP abD fY Tryz.func87 (by kernel_rfl) (fun ps r h=>by
 unfold bE at h;split at h
 ·rw[eq_87];exact h
 ·cases h)
theorem abF:au S Jz:=au.step aP abE fY Tryz.func74 (by kernel_rfl) (fun ps r h=>by
 unfold jE at h;split at h
 ·rw[eq_74];exact h
 ·cases h)
theorem abG:au S JN:=au.step aP abF fY Tryz.func88 (by kernel_rfl) (fun ps r h=>by
 unfold jI at h;split at h
 ·rw[eq_88];exact h
 ·cases h)
theorem abH:au S J4:=au.step aP abG fY Tryz.func72 (by kernel_rfl) (fun ps r h=>by
 unfold ly at h;split at h
 ·rw[eq_72];exact h
 ·cases h)
theorem abI:au S Ko:=au.step aP abH fY Tryz.func96 (by kernel_rfl) (fun ps r h=>by
 unfold ff at h;split at h
 ·rw[eq_96];exact h
 ·cases h)
theorem abJ:au S JA:=au.step aP abI fY Tryz.func89 (by kernel_rfl) (fun ps r h=>by
 unfold fq at h;split at h
 ·rw[eq_89];exact h
 ·cases h)
theorem abK:au S JO:=au.step aP abJ fY Tryz.func73 (by kernel_rfl) (fun ps r h=>by
 unfold jG at h;split at h
 ·rw[eq_73];exact h
 ·cases h)
theorem abL:au S J5:=au.step aP abK fY Tryz.func70 (by kernel_rfl) (fun ps r h=>by
 unfold iU at h;split at h
 ·rw[eq_70];exact h
 ·cases h)
theorem abM:au S Kp:=au.step aP abL fY Tryz.func34 (by kernel_rfl) (fun ps r h=>by
 unfold jF at h;split at h
 ·rw[eq_34];exact h
 ·cases h)
theorem abN:au S JB:=au.step aP abM fY Tryz.func71 (by kernel_rfl) (fun ps r h=>by
 unfold mN at h;split at h
 ·rw[eq_71];exact h
 ·cases h)
theorem abO:au S JP:=au.step aP abN fY Tryz.func69 (by kernel_rfl) (fun ps r h=>by
 unfold jD at h;split at h
 ·rw[eq_69];exact h
 ·cases h)
theorem abP:au S J6:=au.step aP abO fY Tryz.func38 (by kernel_rfl) (fun ps r h=>by
 unfold jJ at h;split at h
 ·rw[eq_38];exact h
 ·cases h)
theorem abQ:au S Kq:=au.step aP abP fY Tryz.func19 (by kernel_rfl) (fun ps r h=>by
 unfold jK at h;split at h
 ·rw[eq_19];exact h
 ·cases h)
theorem abR:au S J7:=au.step aP abQ fY Tryz.func10 (by kernel_rfl) (fun ps r h=>by
 unfold jL at h;split at h
 ·rw[eq_10];exact h
 ·cases h)
theorem abS:au S Kr:=au.step aP abR fY Tryz.func14 (by kernel_rfl) (fun ps r h=>by
 unfold gW at h;split at h
 ·rw[eq_14];exact h
 ·cases h)
theorem abT:au S JC:=au.step aP abS fY Tryz.func37 (by kernel_rfl) (fun ps r h=>by
 unfold fN at h;split at h
 ·rw[eq_37];exact h
 ·cases h)
theorem abU:au S JQ:=au.step aP abT fY Tryz.func68 (by kernel_rfl) (fun ps r h=>by
 unfold fM at h;split at h
 ·rw[eq_68];exact h
 ·cases h)
theorem abV:au S J8:=au.step aP abU fY Tryz.func36 (by kernel_rfl) (fun ps r h=>by
 unfold gp at h;split at h
 ·rw[eq_36];exact h
 ·cases h)
theorem abW:au S JR:=au.step aP abV fY Tryz.func17 (by kernel_rfl) (fun ps r h=>by
 unfold fb at h;split at h
 ·rw[eq_17];exact h
 ·cases h)
theorem abX:au S Sg:=au.step aP abW fY Tryz.func9 (by kernel_rfl) (fun ps r h=>by
 unfold dV at h;split at h
 ·rw[eq_9];exact h
 ·cases h)
end Go.Proofs.YtcmhmlnkhmefbaaGreat
