import Derived.Test.YtcmhmlnkhmefbaaGreatEq1
import Derived.Test.YtcmhmlnkhmefbaaGreatEq2
import Derived.Test.YtcmhmlnkhmefbaaGreatEq3
import Derived.Test.YtcmhmlnkhmefbaaGreatEq4
import Derived.Test.YtcmhmlnkhmefbaaGreatLays
import Derived.Test.YtcmhmlnkhmefbaaGreatAbSortKOk
namespace Go.Proofs.YtcmhmlnkhmefbaaGreat
open Go.Ab
theorem Fk:tL S0:=⟨by kernel_rfl,(fun g h hh=>by cases hh),by kernel_rfl⟩
theorem aaT:au S0 RI:=au.nil S0
theorem KZ:fY S0 bU:=fY.nil S0
theorem aaU:au S0 RM:=au.step Fk aaT KZ Tryz.func102 (by kernel_rfl) (fun ps r h=>by
 unfold cW at h;split at h
 ·rw[eq_102];exact h
 ·cases h)
theorem aaV:au S0 RP:=au.step Fk aaU KZ Tryz.func101 (by kernel_rfl) (fun ps r h=>by
 unfold gN at h;split at h
 ·rw[eq_101];exact h
 ·cases h)
theorem V6:au S0 MT:=au.step Fk aaV KZ Tryz.func100 (by kernel_rfl) (fun ps r h=>by
 unfold bq at h;split at h
 ·rw[eq_100];exact h
 ·cases h)
theorem Ya(g:Nat)(M:List PV→Option PV)(h:Uw g=some M):tn S.P S.aI g M:=by
 unfold Uw at h;cases e:Nat.beq g 100 with
 |true=>rw[e]at h;have:=Nat.eq_of_beq_eq_true e;subst this;cases h;exact V6 (100,bq) (tM (by kernel_rfl))
 |false=>rw[e]at h;cases h
theorem aP:tL S:=⟨by kernel_rfl,(fun g h hh R args f m k r hr=>by
 have hh:(bif Nat.beq g 99 then some (uZ 4 Uw)else none)=some h:=hh;cases e:Nat.beq g 99 with
 |true=>rw[e]at hh;have:=Nat.eq_of_beq_eq_true e;subst this;cases hh;exact EP Uz rfl ⟨Tryz.f99,_,Tryz.func99,rfl,by kernel_rfl⟩ Tryz.isAgg83 Tryz.sizeOf83 Ya hr
 |false=>rw[e]at hh;cases hh),by kernel_rfl⟩
theorem aeF:au S MT:=fun x hx=>V6 x hx
theorem dW:fY S bU:=fY.nil S
theorem aeG:au S RJ:=au.step aP aeF dW Tryz.func24 (by kernel_rfl) (fun ps r h=>by
 unfold ij at h;split at h
 ·rw[eq_24];exact h
 ·cases h)
theorem aeH:au S RN:=au.step aP aeG dW Tryz.func25 (by kernel_rfl) (fun ps r h=>by
 unfold fV at h;split at h
 ·rw[eq_25];exact h
 ·cases h)
theorem aeI:au S RQ:=au.step aP aeH dW Tryz.func23 (by kernel_rfl) (fun ps r h=>by
 unfold fI at h;split at h
 ·rw[eq_23];exact h
 ·cases h)
theorem aeJ:au S RR:=au.step aP aeI dW Tryz.func90 (by kernel_rfl) (fun ps r h=>by
 unfold j8 at h;split at h
 ·rw[eq_90];exact h
 ·cases h)
theorem aeK:au S RL:=au.step aP aeJ dW Tryz.func77 (by kernel_rfl) (fun ps r h=>by
 unfold dy at h;split at h
 ·rw[eq_77];exact h
 ·cases h)
theorem aeL:au S RO:=au.step aP aeK dW Tryz.func94 (by kernel_rfl) (fun ps r h=>by
 unfold fb at h;split at h
 ·rw[eq_94];exact h
 ·cases h)
theorem aaW:au S JV:=au.step aP aeL dW Tryz.func93 (by kernel_rfl) (fun ps r h=>by
 unfold ef at h;split at h
 ·rw[eq_93];exact h
 ·cases h)
theorem aaX:au S Kc:=au.step aP aaW dW Tryz.func50 (by kernel_rfl) (fun ps r h=>by
 unfold gM at h;split at h
 ·rw[eq_50];exact h
 ·cases h)
theorem aaY:au S Jt:=au.step aP aaX dW Tryz.func49 (by kernel_rfl) (fun ps r h=>by
 unfold dv at h;split at h
 ·rw[eq_49];exact h
 ·cases h)
theorem aaZ:au S JH:=au.step aP aaY dW Tryz.func48 (by kernel_rfl) (fun ps r h=>by
 unfold bI at h;split at h
 ·rw[eq_48];exact h
 ·cases h)
theorem aa0:au S JW:=au.step aP aaZ dW Tryz.func51 (by kernel_rfl) (fun ps r h=>by
 unfold dX at h;split at h
 ·rw[eq_51];exact h
 ·cases h)
theorem aa1:au S Ke:=au.step aP aa0 dW Tryz.func52 (by kernel_rfl) (fun ps r h=>by
 unfold fq at h;split at h
 ·rw[eq_52];exact h
 ·cases h)
theorem aa2:au S Ju:=au.step aP aa1 dW Tryz.func27 (by kernel_rfl) (fun ps r h=>by
 unfold cN at h;split at h
 ·rw[eq_27];exact h
 ·cases h)
theorem aa3:au S JI:=au.step aP aa2 dW Tryz.func79 (by kernel_rfl) (fun ps r h=>by
 unfold eW at h;split at h
 ·rw[eq_79];exact h
 ·cases h)
theorem aa4:au S JX:=au.step aP aa3 dW Tryz.func43 (by kernel_rfl) (fun ps r h=>by
 unfold aU at h;split at h
 ·rw[eq_43];exact h
 ·cases h)
theorem aa5:au S Kf:=au.step aP aa4 dW Tryz.func78 (by kernel_rfl) (fun ps r h=>by
 unfold bX at h;split at h
 ·rw[eq_78];exact h
 ·cases h)
theorem aa6:au S Jv:=au.step aP aa5 dW Tryz.func45 (by kernel_rfl) (fun ps r h=>by
 unfold cw at h;split at h
 ·rw[eq_45];exact h
 ·cases h)
theorem aa7:au S JJ:=au.step aP aa6 dW Tryz.func121 (by kernel_rfl) (fun ps r h=>by
 unfold cD at h;split at h
 ·rw[eq_121];exact h
 ·cases h)
theorem aa8:au S JY:=au.step aP aa7 dW Tryz.func107 (by kernel_rfl) (fun ps r h=>by
 unfold eD at h;split at h
 ·rw[eq_107];exact h
 ·cases h)
theorem aa9:au S Kg:=au.step aP aa8 dW Tryz.func123 (by kernel_rfl) (fun ps r h=>by
 unfold ee at h;split at h
 ·rw[eq_123];exact h
 ·cases h)
theorem aba:au S Jw:=au.step aP aa9 dW Tryz.func131 (by kernel_rfl) (fun ps r h=>by
 unfold aD at h;split at h
 ·rw[eq_131];exact h
 ·cases h)
theorem abb:au S JK:=au.step aP aba dW Tryz.func110 (by kernel_rfl) (fun ps r h=>by
 unfold dt at h;split at h
 ·rw[eq_110];exact h
 ·cases h)
theorem abc:au S JZ:=au.step aP abb dW Tryz.func109 (by kernel_rfl) (fun ps r h=>by
 unfold dC at h;split at h
 ·rw[eq_109];exact h
 ·cases h)
theorem abd:au S Kh:=au.step aP abc dW Tryz.func108 (by kernel_rfl) (fun ps r h=>by
 unfold c9 at h;split at h
 ·rw[eq_108];exact h
 ·cases h)
theorem abe:au S Jx:=au.step aP abd dW Tryz.func103 (by kernel_rfl) (fun ps r h=>by
 unfold dV at h;split at h
 ·rw[eq_103];exact h
 ·cases h)
theorem abf:au S JL:=au.step aP abe dW Tryz.func97 (by kernel_rfl) (fun ps r h=>by
 unfold cv at h;split at h
 ·rw[eq_97];exact h
 ·cases h)
theorem abg:au S J0:=au.step aP abf dW Tryz.func92 (by kernel_rfl) (fun ps r h=>by
 unfold c8 at h;split at h
 ·rw[eq_92];exact h
 ·cases h)
theorem abh:au S Ki:=au.step aP abg dW Tryz.func91 (by kernel_rfl) (fun ps r h=>by
 unfold eC at h;split at h
 ·rw[eq_91];exact h
 ·cases h)
theorem abi:au S Jy:=au.step aP abh dW Tryz.func81 (by kernel_rfl) (fun ps r h=>by
 unfold dr at h;split at h
 ·rw[eq_81];exact h
 ·cases h)
theorem abj:au S JM:=au.step aP abi dW Tryz.func47 (by kernel_rfl) (fun ps r h=>by
 unfold bG at h;split at h
 ·rw[eq_47];exact h
 ·cases h)
theorem abk:au S J1:=au.step aP abj dW Tryz.func44 (by kernel_rfl) (fun ps r h=>by
 unfold dq at h;split at h
 ·rw[eq_44];exact h
 ·cases h)
theorem abl:au S Kj:=au.step aP abk dW Tryz.func42 (by kernel_rfl) (fun ps r h=>by
 unfold cM at h;split at h
 ·rw[eq_42];exact h
 ·cases h)
theorem abm:au S Jz:=au.step aP abl dW Tryz.func80 (by kernel_rfl) (fun ps r h=>by
 unfold bu at h;split at h
 ·rw[eq_80];exact h
 ·cases h)
theorem abn:au S JN:=au.step aP abm dW Tryz.func46 (by kernel_rfl) (fun ps r h=>by
 unfold dc at h;split at h
 ·rw[eq_46];exact h
 ·cases h)
theorem abo:au S J2:=au.step aP abn dW Tryz.func76 (by kernel_rfl) (fun ps r h=>by
 unfold ig at h;split at h
 ·rw[eq_76];exact h
 ·cases h)
theorem abp:au S Kk:=au.step aP abo dW Tryz.func41 (by kernel_rfl) (fun ps r h=>by
 unfold fU at h;split at h
 ·rw[eq_41];exact h
 ·cases h)
theorem abq:au S JA:=au.step aP abp dW Tryz.func40 (by kernel_rfl) (fun ps r h=>by
 unfold gL at h;split at h
 ·rw[eq_40];exact h
 ·cases h)
theorem zT:au S qC:=au.step aP abq dW Tryz.func26 (by kernel_rfl) (fun ps r h=>by
 unfold ec at h;split at h
 ·rw[eq_26];exact h
 ·cases h)
theorem abr:fY S J3:=fY.step aP zT dW Tryz.func58 (by kernel_rfl) (fun ps r h=>by
 unfold cA at h;split at h
 ·rw[eq_58];exact h
 ·cases h)
theorem abt:fY S Km:=fY.step aP zT abr Tryz.func57 (by kernel_rfl) (fun ps r h=>by
 unfold bH at h;split at h
 ·rw[eq_57];exact h
 ·cases h)
theorem abu:fY S JB:=fY.step aP zT abt Tryz.func56 (by kernel_rfl) (fun ps r h=>by
 unfold cz at h;split at h
 ·rw[eq_56];exact h
 ·cases h)
theorem abv:fY S JO:=fY.step aP zT abu Tryz.func59 (by kernel_rfl) (fun ps r h=>by
 unfold bO at h;split at h
 ·rw[eq_59];exact h
 ·cases h)
theorem abw:fY S J4:=fY.step aP zT abv Tryz.func54 (by kernel_rfl) (fun ps r h=>by
 unfold ck at h;split at h
 ·rw[eq_54];exact h
 ·cases h)
theorem abx:fY S Kn:=fY.step aP zT abw Tryz.func55 (by kernel_rfl) (fun ps r h=>by
 unfold cT at h;split at h
 ·rw[eq_55];exact h
 ·cases h)
theorem V7:fY S ER:=fY.step aP zT abx Tryz.func53 (by kernel_rfl) (fun ps r h=>by
 unfold cy at h;split at h
 ·rw[eq_53];exact h
 ·cases h)
theorem V8:au S ET:=au.step aP zT V7 Tryz.func12 (by kernel_rfl) (fun ps r h=>by
 unfold bw at h;split at h
 ·rw[eq_12];exact h
 ·cases h)
theorem ga:fY S dM:=fY.step aP V8 V7 Tryz.func82 (by kernel_rfl) (fun ps r h=>by
 unfold dd at h;split at h
 ·rw[eq_82];exact h
 ·cases h)
theorem aby:au S Ko:=au.step aP V8 ga Tryz.func85 (by kernel_rfl) (fun ps r h=>by
 unfold bQ at h;split at h
 ·rw[eq_85];exact h
 ·cases h)
theorem abz:au S JC:=au.step aP aby ga Tryz.func20 (by kernel_rfl) (fun ps r h=>by
 unfold fe at h;split at h
 ·rw[eq_20];exact h
 ·cases h)
theorem abA:au S JP:=au.step aP abz ga Tryz.func15 (by kernel_rfl) (fun ps r h=>by
 unfold aZ at h;split at h
 ·rw[eq_15];exact h
 ·cases h)
theorem abB:au S J5:=au.step aP abA ga Tryz.func75 (by kernel_rfl) (fun ps r h=>by
 unfold cj at h;split at h
 ·rw[eq_75];exact h
 ·cases h)
theorem abC:au S Kp:=au.step aP abB ga Tryz.func39 (by kernel_rfl) (fun ps r h=>by
 unfold fp at h;split at h
 ·rw[eq_39];exact h
 ·cases h)
theorem abD:au S ES:=au.step aP abC ga Tryz.func22 (by kernel_rfl) (fun ps r h=>by
 unfold bK at h;split at h
 ·rw[eq_22];exact h
 ·cases h)
theorem abE:au S JQ:=au.step aP abD ga Tryz.func11 (by kernel_rfl) (fun ps r h=>by
 unfold cB at h;split at h
 ·rw[eq_11];exact h
 ·cases h)
theorem abF:au S J6:=au.step aP abE ga Tryz.func86 (by kernel_rfl) (fun ps r h=>by
 unfold eg at h;split at h
 ·rw[eq_86];exact h
 ·cases h)
theorem abG:au S Kq:=au.step aP abF ga Tryz.func87 (by kernel_rfl) (fun ps r h=>by
 unfold bF at h;split at h
 ·rw[eq_87];exact h
 ·cases h)
theorem abH:au S JD:=au.step aP abG ga Tryz.func74 (by kernel_rfl) (fun ps r h=>by
 unfold jH at h;split at h
 ·rw[eq_74];exact h
 ·cases h)
theorem abI:au S JR:=au.step aP abH ga Tryz.func88 (by kernel_rfl) (fun ps r h=>by
 unfold jL at h;split at h
 ·rw[eq_88];exact h
 ·cases h)
theorem abJ:au S J7:=au.step aP abI ga Tryz.func72 (by kernel_rfl) (fun ps r h=>by
 unfold lB at h;split at h
 ·rw[eq_72];exact h
 ·cases h)
theorem abK:au S Kr:=au.step aP abJ ga Tryz.func96 (by kernel_rfl) (fun ps r h=>by
 unfold fh at h;split at h
 ·rw[eq_96];exact h
 ·cases h)
theorem abL:au S JE:=au.step aP abK ga Tryz.func89 (by kernel_rfl) (fun ps r h=>by
 unfold fx at h;split at h
 ·rw[eq_89];exact h
 ·cases h)
theorem abM:au S JS:=au.step aP abL ga Tryz.func73 (by kernel_rfl) (fun ps r h=>by
 unfold jJ at h;split at h
 ·rw[eq_73];exact h
 ·cases h)
theorem abN:au S J8:=au.step aP abM ga Tryz.func70 (by kernel_rfl) (fun ps r h=>by
 unfold iX at h;split at h
 ·rw[eq_70];exact h
 ·cases h)
theorem abO:au S Ks:=au.step aP abN ga Tryz.func34 (by kernel_rfl) (fun ps r h=>by
 unfold jI at h;split at h
 ·rw[eq_34];exact h
 ·cases h)
theorem abP:au S JF:=au.step aP abO ga Tryz.func71 (by kernel_rfl) (fun ps r h=>by
 unfold mS at h;split at h
 ·rw[eq_71];exact h
 ·cases h)
theorem abQ:au S JT:=au.step aP abP ga Tryz.func69 (by kernel_rfl) (fun ps r h=>by
 unfold jG at h;split at h
 ·rw[eq_69];exact h
 ·cases h)
theorem abR:au S J9:=au.step aP abQ ga Tryz.func38 (by kernel_rfl) (fun ps r h=>by
 unfold jM at h;split at h
 ·rw[eq_38];exact h
 ·cases h)
theorem abS:au S Kt:=au.step aP abR ga Tryz.func19 (by kernel_rfl) (fun ps r h=>by
 unfold im at h;split at h
 ·rw[eq_19];exact h
 ·cases h)
theorem abT:au S Ka:=au.step aP abS ga Tryz.func10 (by kernel_rfl) (fun ps r h=>by
 unfold jN at h;split at h
 ·rw[eq_10];exact h
 ·cases h)
theorem abU:au S Ku:=au.step aP abT ga Tryz.func14 (by kernel_rfl) (fun ps r h=>by
 unfold gZ at h;split at h
 ·rw[eq_14];exact h
 ·cases h)
theorem abV:au S JG:=au.step aP abU ga Tryz.func37 (by kernel_rfl) (fun ps r h=>by
 unfold fP at h;split at h
 ·rw[eq_37];exact h
 ·cases h)
theorem abW:au S JU:=au.step aP abV ga Tryz.func68 (by kernel_rfl) (fun ps r h=>by
 unfold fO at h;split at h
 ·rw[eq_68];exact h
 ·cases h)
theorem abX:au S Kb:=au.step aP abW ga Tryz.func36 (by kernel_rfl) (fun ps r h=>by
 unfold gu at h;split at h
 ·rw[eq_36];exact h
 ·cases h)
theorem abY:au S Kv:=au.step aP abX ga Tryz.func17 (by kernel_rfl) (fun ps r h=>by
 unfold dx at h;split at h
 ·rw[eq_17];exact h
 ·cases h)
theorem abZ:au S Sq:=au.step aP abY ga Tryz.func7 (by kernel_rfl) (fun ps r h=>by
 unfold eQ at h;split at h
 ·rw[eq_7];exact h
 ·cases h)
end Go.Proofs.YtcmhmlnkhmefbaaGreat
