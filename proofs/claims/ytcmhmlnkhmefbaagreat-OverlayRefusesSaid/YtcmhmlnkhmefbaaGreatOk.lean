import Derived.Test.YtcmhmlnkhmefbaaGreatEq1
import Derived.Test.YtcmhmlnkhmefbaaGreatEq2
import Derived.Test.YtcmhmlnkhmefbaaGreatEq3
import Derived.Test.YtcmhmlnkhmefbaaGreatEq4
import Derived.Test.YtcmhmlnkhmefbaaGreatLays
import Derived.Test.YtcmhmlnkhmefbaaGreatAbSortKOk
namespace Go.Proofs.YtcmhmlnkhmefbaaGreat
open Go.Ab
theorem E9:tE S0:=⟨by kernel_rfl,(fun g h hh=>by cases hh),by kernel_rfl⟩
theorem aaK:au S0 Rr:=au.nil S0
theorem KM:fV S0 bS:=fV.nil S0
theorem aaL:au S0 Ru:=au.step E9 aaK KM Tryz.func102 (by kernel_rfl) (fun ps r h=>by
 unfold cV at h;split at h
 ·rw[eq_102];exact h
 ·cases h)
theorem aaM:au S0 Rx:=au.step E9 aaL KM Tryz.func101 (by kernel_rfl) (fun ps r h=>by
 unfold gJ at h;split at h
 ·rw[eq_101];exact h
 ·cases h)
theorem VP:au S0 MG:=au.step E9 aaM KM Tryz.func100 (by kernel_rfl) (fun ps r h=>by
 unfold bp at h;split at h
 ·rw[eq_100];exact h
 ·cases h)
theorem XM(g:Nat)(M:List PV→Option PV)(h:Ui g=some M):te S.P S.aI g M:=by
 unfold Ui at h;cases e:Nat.beq g 100 with
 |true=>rw[e]at h;have:=Nat.eq_of_beq_eq_true e;subst this;cases h;exact VP (100,bp) (tF (by kernel_rfl))
 |false=>rw[e]at h;cases h
theorem aP:tE S:=⟨by kernel_rfl,(fun g h hh R args f m k r hr=>by
 have hh:(bif Nat.beq g 99 then some (uU 4 Ui)else none)=some h:=hh;cases e:Nat.beq g 99 with
 |true=>rw[e]at hh;have:=Nat.eq_of_beq_eq_true e;subst this;cases hh;exact EE Ul rfl ⟨Tryz.f99,_,Tryz.func99,rfl,by kernel_rfl⟩ Tryz.isAgg83 Tryz.sizeOf83 XM hr
 |false=>rw[e]at hh;cases hh),by kernel_rfl⟩
theorem aew:au S MG:=fun x hx=>VP x hx
theorem dR:fV S bS:=fV.nil S
theorem aex:au S Rs:=au.step aP aew dR Tryz.func24 (by kernel_rfl) (fun ps r h=>by
 unfold hT at h;split at h
 ·rw[eq_24];exact h
 ·cases h)
theorem aey:au S Rv:=au.step aP aex dR Tryz.func25 (by kernel_rfl) (fun ps r h=>by
 unfold fT at h;split at h
 ·rw[eq_25];exact h
 ·cases h)
theorem aez:au S Ry:=au.step aP aey dR Tryz.func23 (by kernel_rfl) (fun ps r h=>by
 unfold fG at h;split at h
 ·rw[eq_23];exact h
 ·cases h)
theorem aeA:au S Rz:=au.step aP aez dR Tryz.func90 (by kernel_rfl) (fun ps r h=>by
 unfold j6 at h;split at h
 ·rw[eq_90];exact h
 ·cases h)
theorem aeB:au S Rt:=au.step aP aeA dR Tryz.func77 (by kernel_rfl) (fun ps r h=>by
 unfold dw at h;split at h
 ·rw[eq_77];exact h
 ·cases h)
theorem aeC:au S Rw:=au.step aP aeB dR Tryz.func94 (by kernel_rfl) (fun ps r h=>by
 unfold e9 at h;split at h
 ·rw[eq_94];exact h
 ·cases h)
theorem aaN:au S JK:=au.step aP aeC dR Tryz.func93 (by kernel_rfl) (fun ps r h=>by
 unfold dZ at h;split at h
 ·rw[eq_93];exact h
 ·cases h)
theorem aaO:au S J1:=au.step aP aaN dR Tryz.func50 (by kernel_rfl) (fun ps r h=>by
 unfold gI at h;split at h
 ·rw[eq_50];exact h
 ·cases h)
theorem aaP:au S Jh:=au.step aP aaO dR Tryz.func49 (by kernel_rfl) (fun ps r h=>by
 unfold du at h;split at h
 ·rw[eq_49];exact h
 ·cases h)
theorem aaQ:au S Jw:=au.step aP aaP dR Tryz.func48 (by kernel_rfl) (fun ps r h=>by
 unfold bH at h;split at h
 ·rw[eq_48];exact h
 ·cases h)
theorem aaR:au S JL:=au.step aP aaQ dR Tryz.func51 (by kernel_rfl) (fun ps r h=>by
 unfold dU at h;split at h
 ·rw[eq_51];exact h
 ·cases h)
theorem aaS:au S J2:=au.step aP aaR dR Tryz.func52 (by kernel_rfl) (fun ps r h=>by
 unfold fp at h;split at h
 ·rw[eq_52];exact h
 ·cases h)
theorem aaT:au S Ji:=au.step aP aaS dR Tryz.func27 (by kernel_rfl) (fun ps r h=>by
 unfold cM at h;split at h
 ·rw[eq_27];exact h
 ·cases h)
theorem aaU:au S Jx:=au.step aP aaT dR Tryz.func79 (by kernel_rfl) (fun ps r h=>by
 unfold eT at h;split at h
 ·rw[eq_79];exact h
 ·cases h)
theorem aaV:au S JM:=au.step aP aaU dR Tryz.func43 (by kernel_rfl) (fun ps r h=>by
 unfold aU at h;split at h
 ·rw[eq_43];exact h
 ·cases h)
theorem aaW:au S J3:=au.step aP aaV dR Tryz.func78 (by kernel_rfl) (fun ps r h=>by
 unfold bV at h;split at h
 ·rw[eq_78];exact h
 ·cases h)
theorem aaX:au S Jj:=au.step aP aaW dR Tryz.func45 (by kernel_rfl) (fun ps r h=>by
 unfold cw at h;split at h
 ·rw[eq_45];exact h
 ·cases h)
theorem aaY:au S Jy:=au.step aP aaX dR Tryz.func121 (by kernel_rfl) (fun ps r h=>by
 unfold cC at h;split at h
 ·rw[eq_121];exact h
 ·cases h)
theorem aaZ:au S JN:=au.step aP aaY dR Tryz.func107 (by kernel_rfl) (fun ps r h=>by
 unfold eB at h;split at h
 ·rw[eq_107];exact h
 ·cases h)
theorem aa0:au S J4:=au.step aP aaZ dR Tryz.func123 (by kernel_rfl) (fun ps r h=>by
 unfold dY at h;split at h
 ·rw[eq_123];exact h
 ·cases h)
theorem aa1:au S Jk:=au.step aP aa0 dR Tryz.func131 (by kernel_rfl) (fun ps r h=>by
 unfold aD at h;split at h
 ·rw[eq_131];exact h
 ·cases h)
theorem aa2:au S Jz:=au.step aP aa1 dR Tryz.func110 (by kernel_rfl) (fun ps r h=>by
 unfold dr at h;split at h
 ·rw[eq_110];exact h
 ·cases h)
theorem aa3:au S JO:=au.step aP aa2 dR Tryz.func109 (by kernel_rfl) (fun ps r h=>by
 unfold dA at h;split at h
 ·rw[eq_109];exact h
 ·cases h)
theorem aa4:au S J5:=au.step aP aa3 dR Tryz.func108 (by kernel_rfl) (fun ps r h=>by
 unfold c8 at h;split at h
 ·rw[eq_108];exact h
 ·cases h)
theorem aa5:au S Jl:=au.step aP aa4 dR Tryz.func103 (by kernel_rfl) (fun ps r h=>by
 unfold dQ at h;split at h
 ·rw[eq_103];exact h
 ·cases h)
theorem aa6:au S JA:=au.step aP aa5 dR Tryz.func97 (by kernel_rfl) (fun ps r h=>by
 unfold cv at h;split at h
 ·rw[eq_97];exact h
 ·cases h)
theorem aa7:au S JP:=au.step aP aa6 dR Tryz.func92 (by kernel_rfl) (fun ps r h=>by
 unfold c7 at h;split at h
 ·rw[eq_92];exact h
 ·cases h)
theorem aa8:au S J6:=au.step aP aa7 dR Tryz.func91 (by kernel_rfl) (fun ps r h=>by
 unfold eA at h;split at h
 ·rw[eq_91];exact h
 ·cases h)
theorem aa9:au S Jm:=au.step aP aa8 dR Tryz.func81 (by kernel_rfl) (fun ps r h=>by
 unfold dq at h;split at h
 ·rw[eq_81];exact h
 ·cases h)
theorem aba:au S JB:=au.step aP aa9 dR Tryz.func47 (by kernel_rfl) (fun ps r h=>by
 unfold bF at h;split at h
 ·rw[eq_47];exact h
 ·cases h)
theorem abb:au S JQ:=au.step aP aba dR Tryz.func44 (by kernel_rfl) (fun ps r h=>by
 unfold dp at h;split at h
 ·rw[eq_44];exact h
 ·cases h)
theorem abc:au S J7:=au.step aP abb dR Tryz.func42 (by kernel_rfl) (fun ps r h=>by
 unfold cL at h;split at h
 ·rw[eq_42];exact h
 ·cases h)
theorem abd:au S Jn:=au.step aP abc dR Tryz.func80 (by kernel_rfl) (fun ps r h=>by
 unfold br at h;split at h
 ·rw[eq_80];exact h
 ·cases h)
theorem abe:au S JC:=au.step aP abd dR Tryz.func46 (by kernel_rfl) (fun ps r h=>by
 unfold db at h;split at h
 ·rw[eq_46];exact h
 ·cases h)
theorem abf:au S JR:=au.step aP abe dR Tryz.func76 (by kernel_rfl) (fun ps r h=>by
 unfold gZ at h;split at h
 ·rw[eq_76];exact h
 ·cases h)
theorem abg:au S J8:=au.step aP abf dR Tryz.func41 (by kernel_rfl) (fun ps r h=>by
 unfold fS at h;split at h
 ·rw[eq_41];exact h
 ·cases h)
theorem abh:au S Jo:=au.step aP abg dR Tryz.func40 (by kernel_rfl) (fun ps r h=>by
 unfold gH at h;split at h
 ·rw[eq_40];exact h
 ·cases h)
theorem zK:au S qy:=au.step aP abh dR Tryz.func26 (by kernel_rfl) (fun ps r h=>by
 unfold dX at h;split at h
 ·rw[eq_26];exact h
 ·cases h)
theorem abi:fV S JS:=fV.step aP zK dR Tryz.func58 (by kernel_rfl) (fun ps r h=>by
 unfold cA at h;split at h
 ·rw[eq_58];exact h
 ·cases h)
theorem abj:fV S J9:=fV.step aP zK abi Tryz.func57 (by kernel_rfl) (fun ps r h=>by
 unfold bG at h;split at h
 ·rw[eq_57];exact h
 ·cases h)
theorem abk:fV S Jp:=fV.step aP zK abj Tryz.func56 (by kernel_rfl) (fun ps r h=>by
 unfold cz at h;split at h
 ·rw[eq_56];exact h
 ·cases h)
theorem abl:fV S JD:=fV.step aP zK abk Tryz.func59 (by kernel_rfl) (fun ps r h=>by
 unfold bN at h;split at h
 ·rw[eq_59];exact h
 ·cases h)
theorem abm:fV S JT:=fV.step aP zK abl Tryz.func54 (by kernel_rfl) (fun ps r h=>by
 unfold ck at h;split at h
 ·rw[eq_54];exact h
 ·cases h)
theorem abn:fV S Ka:=fV.step aP zK abm Tryz.func55 (by kernel_rfl) (fun ps r h=>by
 unfold cR at h;split at h
 ·rw[eq_55];exact h
 ·cases h)
theorem VQ:fV S EF:=fV.step aP zK abn Tryz.func53 (by kernel_rfl) (fun ps r h=>by
 unfold cy at h;split at h
 ·rw[eq_53];exact h
 ·cases h)
theorem VR:au S EH:=au.step aP zK VQ Tryz.func12 (by kernel_rfl) (fun ps r h=>by
 unfold bI at h;split at h
 ·rw[eq_12];exact h
 ·cases h)
theorem fX:fV S dI:=fV.step aP VR VQ Tryz.func82 (by kernel_rfl) (fun ps r h=>by
 unfold dc at h;split at h
 ·rw[eq_82];exact h
 ·cases h)
theorem abo:au S Kb:=au.step aP VR fX Tryz.func85 (by kernel_rfl) (fun ps r h=>by
 unfold bP at h;split at h
 ·rw[eq_85];exact h
 ·cases h)
theorem abp:au S Jq:=au.step aP abo fX Tryz.func20 (by kernel_rfl) (fun ps r h=>by
 unfold fa at h;split at h
 ·rw[eq_20];exact h
 ·cases h)
theorem abq:au S JE:=au.step aP abp fX Tryz.func15 (by kernel_rfl) (fun ps r h=>by
 unfold aZ at h;split at h
 ·rw[eq_15];exact h
 ·cases h)
theorem abr:au S JU:=au.step aP abq fX Tryz.func75 (by kernel_rfl) (fun ps r h=>by
 unfold cj at h;split at h
 ·rw[eq_75];exact h
 ·cases h)
theorem abt:au S Kc:=au.step aP abr fX Tryz.func39 (by kernel_rfl) (fun ps r h=>by
 unfold fo at h;split at h
 ·rw[eq_39];exact h
 ·cases h)
theorem abu:au S EG:=au.step aP abt fX Tryz.func22 (by kernel_rfl) (fun ps r h=>by
 unfold bX at h;split at h
 ·rw[eq_22];exact h
 ·cases h)
theorem abv:au S JF:=au.step aP abu fX Tryz.func11 (by kernel_rfl) (fun ps r h=>by
 unfold dE at h;split at h
 ·rw[eq_11];exact h
 ·cases h)
theorem abw:au S JV:=au.step aP abv fX Tryz.func86 (by kernel_rfl) (fun ps r h=>by
 unfold ec at h;split at h
 ·rw[eq_86];exact h
 ·cases h)
theorem abx:au S Ke:=au.step aP abw fX Tryz.func87 (by kernel_rfl) (fun ps r h=>by
 unfold bC at h;split at h
 ·rw[eq_87];exact h
 ·cases h)
theorem aby:au S Jr:=au.step aP abx fX Tryz.func74 (by kernel_rfl) (fun ps r h=>by
 unfold jE at h;split at h
 ·rw[eq_74];exact h
 ·cases h)
theorem abz:au S JG:=au.step aP aby fX Tryz.func88 (by kernel_rfl) (fun ps r h=>by
 unfold jI at h;split at h
 ·rw[eq_88];exact h
 ·cases h)
theorem abA:au S JW:=au.step aP abz fX Tryz.func72 (by kernel_rfl) (fun ps r h=>by
 unfold lz at h;split at h
 ·rw[eq_72];exact h
 ·cases h)
theorem abB:au S Kf:=au.step aP abA fX Tryz.func96 (by kernel_rfl) (fun ps r h=>by
 unfold fg at h;split at h
 ·rw[eq_96];exact h
 ·cases h)
theorem abC:au S Js:=au.step aP abB fX Tryz.func89 (by kernel_rfl) (fun ps r h=>by
 unfold fq at h;split at h
 ·rw[eq_89];exact h
 ·cases h)
theorem abD:au S JH:=au.step aP abC fX Tryz.func73 (by kernel_rfl) (fun ps r h=>by
 unfold jG at h;split at h
 ·rw[eq_73];exact h
 ·cases h)
theorem abE:au S JX:=au.step aP abD fX Tryz.func70 (by kernel_rfl) (fun ps r h=>by
 unfold iU at h;split at h
 ·rw[eq_70];exact h
 ·cases h)
theorem abF:au S Kg:=au.step aP abE fX Tryz.func34 (by kernel_rfl) (fun ps r h=>by
 unfold jF at h;split at h
 ·rw[eq_34];exact h
 ·cases h)
theorem abG:au S Jt:=au.step aP abF fX Tryz.func71 (by kernel_rfl) (fun ps r h=>by
 unfold mO at h;split at h
 ·rw[eq_71];exact h
 ·cases h)
theorem abH:au S JI:=au.step aP abG fX Tryz.func69 (by kernel_rfl) (fun ps r h=>by
 unfold jD at h;split at h
 ·rw[eq_69];exact h
 ·cases h)
theorem abI:au S JY:=au.step aP abH fX Tryz.func38 (by kernel_rfl) (fun ps r h=>by
 unfold jJ at h;split at h
 ·rw[eq_38];exact h
 ·cases h)
theorem abJ:au S JZ:=au.step aP abI fX Tryz.func19 (by kernel_rfl) (fun ps r h=>by
 unfold jK at h;split at h
 ·rw[eq_19];exact h
 ·cases h)
theorem abK:au S Kh:=au.step aP abJ fX Tryz.func14 (by kernel_rfl) (fun ps r h=>by
 unfold gU at h;split at h
 ·rw[eq_14];exact h
 ·cases h)
theorem abL:au S Ju:=au.step aP abK fX Tryz.func37 (by kernel_rfl) (fun ps r h=>by
 unfold fN at h;split at h
 ·rw[eq_37];exact h
 ·cases h)
theorem abM:au S JJ:=au.step aP abL fX Tryz.func68 (by kernel_rfl) (fun ps r h=>by
 unfold fM at h;split at h
 ·rw[eq_68];exact h
 ·cases h)
theorem abN:au S J0:=au.step aP abM fX Tryz.func36 (by kernel_rfl) (fun ps r h=>by
 unfold gp at h;split at h
 ·rw[eq_36];exact h
 ·cases h)
theorem abO:au S Ki:=au.step aP abN fX Tryz.func17 (by kernel_rfl) (fun ps r h=>by
 unfold fe at h;split at h
 ·rw[eq_17];exact h
 ·cases h)
theorem abP:au S Jv:=au.step aP abO fX Tryz.func18 (by kernel_rfl) (fun ps r h=>by
 unfold jL at h;split at h
 ·rw[eq_18];exact h
 ·cases h)
theorem abQ:au S R5:=au.step aP abP fX Tryz.func5 (by kernel_rfl) (fun ps r h=>by
 unfold dS at h;split at h
 ·rw[eq_5];exact h
 ·cases h)
end Go.Proofs.YtcmhmlnkhmefbaaGreat
