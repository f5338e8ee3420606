import Derived.Test.YtcmhmlnkhmefbaaGreatEq1
import Derived.Test.YtcmhmlnkhmefbaaGreatEq2
import Derived.Test.YtcmhmlnkhmefbaaGreatEq3
import Derived.Test.YtcmhmlnkhmefbaaGreatEq4
import Derived.Test.YtcmhmlnkhmefbaaGreatLays
import Derived.Test.YtcmhmlnkhmefbaaGreatAbSortKOk
namespace Go.Proofs.YtcmhmlnkhmefbaaGreat
open Go.Ab
theorem EH:td S0:=⟨by kernel_rfl,(fun g h hh=>by cases hh),by kernel_rfl⟩
theorem aab:ar S0 QH:=ar.nil S0
theorem Kf:fS S0 bR:=fS.nil S0
theorem aac:ar S0 QK:=ar.step EH aab Kf Tryz.func102 (by kernel_rfl) (fun ps r h=>by
 unfold cT at h;split at h
 ·rw[eq_102];exact h
 ·cases h)
theorem aad:ar S0 QN:=ar.step EH aac Kf Tryz.func101 (by kernel_rfl) (fun ps r h=>by
 unfold gz at h;split at h
 ·rw[eq_101];exact h
 ·cases h)
theorem UT:ar S0 L5:=ar.step EH aad Kf Tryz.func100 (by kernel_rfl) (fun ps r h=>by
 unfold bm at h;split at h
 ·rw[eq_100];exact h
 ·cases h)
theorem WS(g:Nat)(M:List PV→Option PV)(h:Tq g=some M):sL S.P S.aD g M:=by
 unfold Tq at h;cases e:Nat.beq g 100 with
 |true=>rw[e]at h;have:=Nat.eq_of_beq_eq_true e;subst this;cases h;exact UT (100,bm) (te (by kernel_rfl))
 |false=>rw[e]at h;cases h
theorem aQ:td S:=⟨by kernel_rfl,(fun g h hh R args f m k r hr=>by
 have hh:(bif Nat.beq g 99 then some (uq 4 Tq)else none)=some h:=hh;cases e:Nat.beq g 99 with
 |true=>rw[e]at hh;have:=Nat.eq_of_beq_eq_true e;subst this;cases hh;exact Ec Tu rfl ⟨Tryz.f99,_,Tryz.func99,rfl,by kernel_rfl⟩ Tryz.isAgg83 Tryz.sizeOf83 WS hr
 |false=>rw[e]at hh;cases hh),by kernel_rfl⟩
theorem adS:ar S L5:=fun x hx=>UT x hx
theorem dQ:fS S bR:=fS.nil S
theorem adT:ar S QI:=ar.step aQ adS dQ Tryz.func24 (by kernel_rfl) (fun ps r h=>by
 unfold gO at h;split at h
 ·rw[eq_24];exact h
 ·cases h)
theorem adU:ar S QL:=ar.step aQ adT dQ Tryz.func25 (by kernel_rfl) (fun ps r h=>by
 unfold fP at h;split at h
 ·rw[eq_25];exact h
 ·cases h)
theorem adV:ar S QO:=ar.step aQ adU dQ Tryz.func23 (by kernel_rfl) (fun ps r h=>by
 unfold fE at h;split at h
 ·rw[eq_23];exact h
 ·cases h)
theorem adW:ar S QP:=ar.step aQ adV dQ Tryz.func90 (by kernel_rfl) (fun ps r h=>by
 unfold jT at h;split at h
 ·rw[eq_90];exact h
 ·cases h)
theorem adX:ar S QJ:=ar.step aQ adW dQ Tryz.func77 (by kernel_rfl) (fun ps r h=>by
 unfold dw at h;split at h
 ·rw[eq_77];exact h
 ·cases h)
theorem adY:ar S QM:=ar.step aQ adX dQ Tryz.func94 (by kernel_rfl) (fun ps r h=>by
 unfold e8 at h;split at h
 ·rw[eq_94];exact h
 ·cases h)
theorem aae:ar S Ji:=ar.step aQ adY dQ Tryz.func93 (by kernel_rfl) (fun ps r h=>by
 unfold dY at h;split at h
 ·rw[eq_93];exact h
 ·cases h)
theorem aaf:ar S Jx:=ar.step aQ aae dQ Tryz.func50 (by kernel_rfl) (fun ps r h=>by
 unfold gy at h;split at h
 ·rw[eq_50];exact h
 ·cases h)
theorem aag:ar S IL:=ar.step aQ aaf dQ Tryz.func49 (by kernel_rfl) (fun ps r h=>by
 unfold du at h;split at h
 ·rw[eq_49];exact h
 ·cases h)
theorem aah:ar S I4:=ar.step aQ aag dQ Tryz.func48 (by kernel_rfl) (fun ps r h=>by
 unfold bG at h;split at h
 ·rw[eq_48];exact h
 ·cases h)
theorem aai:ar S Jj:=ar.step aQ aah dQ Tryz.func51 (by kernel_rfl) (fun ps r h=>by
 unfold dS at h;split at h
 ·rw[eq_51];exact h
 ·cases h)
theorem aaj:ar S Jy:=ar.step aQ aai dQ Tryz.func52 (by kernel_rfl) (fun ps r h=>by
 unfold fl at h;split at h
 ·rw[eq_52];exact h
 ·cases h)
theorem aak:ar S IM:=ar.step aQ aaj dQ Tryz.func27 (by kernel_rfl) (fun ps r h=>by
 unfold cL at h;split at h
 ·rw[eq_27];exact h
 ·cases h)
theorem aal:ar S I5:=ar.step aQ aak dQ Tryz.func79 (by kernel_rfl) (fun ps r h=>by
 unfold eT at h;split at h
 ·rw[eq_79];exact h
 ·cases h)
theorem aam:ar S Jk:=ar.step aQ aal dQ Tryz.func43 (by kernel_rfl) (fun ps r h=>by
 unfold aP at h;split at h
 ·rw[eq_43];exact h
 ·cases h)
theorem aan:ar S Jz:=ar.step aQ aam dQ Tryz.func78 (by kernel_rfl) (fun ps r h=>by
 unfold bT at h;split at h
 ·rw[eq_78];exact h
 ·cases h)
theorem aao:ar S IP:=ar.step aQ aan dQ Tryz.func45 (by kernel_rfl) (fun ps r h=>by
 unfold cv at h;split at h
 ·rw[eq_45];exact h
 ·cases h)
theorem aap:ar S I6:=ar.step aQ aao dQ Tryz.func121 (by kernel_rfl) (fun ps r h=>by
 unfold cA at h;split at h
 ·rw[eq_121];exact h
 ·cases h)
theorem aaq:ar S Jl:=ar.step aQ aap dQ Tryz.func107 (by kernel_rfl) (fun ps r h=>by
 unfold ez at h;split at h
 ·rw[eq_107];exact h
 ·cases h)
theorem aar:ar S JA:=ar.step aQ aaq dQ Tryz.func123 (by kernel_rfl) (fun ps r h=>by
 unfold dX at h;split at h
 ·rw[eq_123];exact h
 ·cases h)
theorem aas:ar S IQ:=ar.step aQ aar dQ Tryz.func131 (by kernel_rfl) (fun ps r h=>by
 unfold ay at h;split at h
 ·rw[eq_131];exact h
 ·cases h)
theorem aat:ar S I7:=ar.step aQ aas dQ Tryz.func110 (by kernel_rfl) (fun ps r h=>by
 unfold dr at h;split at h
 ·rw[eq_110];exact h
 ·cases h)
theorem aau:ar S Jm:=ar.step aQ aat dQ Tryz.func109 (by kernel_rfl) (fun ps r h=>by
 unfold dA at h;split at h
 ·rw[eq_109];exact h
 ·cases h)
theorem aav:ar S JB:=ar.step aQ aau dQ Tryz.func108 (by kernel_rfl) (fun ps r h=>by
 unfold c7 at h;split at h
 ·rw[eq_108];exact h
 ·cases h)
theorem aaw:ar S IU:=ar.step aQ aav dQ Tryz.func103 (by kernel_rfl) (fun ps r h=>by
 unfold dO at h;split at h
 ·rw[eq_103];exact h
 ·cases h)
theorem aax:ar S I8:=ar.step aQ aaw dQ Tryz.func97 (by kernel_rfl) (fun ps r h=>by
 unfold cu at h;split at h
 ·rw[eq_97];exact h
 ·cases h)
theorem aay:ar S Jn:=ar.step aQ aax dQ Tryz.func92 (by kernel_rfl) (fun ps r h=>by
 unfold cZ at h;split at h
 ·rw[eq_92];exact h
 ·cases h)
theorem aaz:ar S JC:=ar.step aQ aay dQ Tryz.func91 (by kernel_rfl) (fun ps r h=>by
 unfold ey at h;split at h
 ·rw[eq_91];exact h
 ·cases h)
theorem aaA:ar S IV:=ar.step aQ aaz dQ Tryz.func81 (by kernel_rfl) (fun ps r h=>by
 unfold dq at h;split at h
 ·rw[eq_81];exact h
 ·cases h)
theorem aaB:ar S I9:=ar.step aQ aaA dQ Tryz.func47 (by kernel_rfl) (fun ps r h=>by
 unfold bE at h;split at h
 ·rw[eq_47];exact h
 ·cases h)
theorem aaC:ar S Jo:=ar.step aQ aaB dQ Tryz.func44 (by kernel_rfl) (fun ps r h=>by
 unfold dp at h;split at h
 ·rw[eq_44];exact h
 ·cases h)
theorem aaD:ar S JD:=ar.step aQ aaC dQ Tryz.func42 (by kernel_rfl) (fun ps r h=>by
 unfold cK at h;split at h
 ·rw[eq_42];exact h
 ·cases h)
theorem aaE:ar S IW:=ar.step aQ aaD dQ Tryz.func80 (by kernel_rfl) (fun ps r h=>by
 unfold bq at h;split at h
 ·rw[eq_80];exact h
 ·cases h)
theorem aaF:ar S Ja:=ar.step aQ aaE dQ Tryz.func46 (by kernel_rfl) (fun ps r h=>by
 unfold db at h;split at h
 ·rw[eq_46];exact h
 ·cases h)
theorem aaG:ar S Jp:=ar.step aQ aaF dQ Tryz.func76 (by kernel_rfl) (fun ps r h=>by
 unfold gN at h;split at h
 ·rw[eq_76];exact h
 ·cases h)
theorem aaH:ar S JE:=ar.step aQ aaG dQ Tryz.func41 (by kernel_rfl) (fun ps r h=>by
 unfold fO at h;split at h
 ·rw[eq_41];exact h
 ·cases h)
theorem aaI:ar S IX:=ar.step aQ aaH dQ Tryz.func40 (by kernel_rfl) (fun ps r h=>by
 unfold gx at h;split at h
 ·rw[eq_40];exact h
 ·cases h)
theorem zh:ar S pX:=ar.step aQ aaI dQ Tryz.func26 (by kernel_rfl) (fun ps r h=>by
 unfold dW at h;split at h
 ·rw[eq_26];exact h
 ·cases h)
theorem aaJ:fS S Jq:=fS.step aQ zh dQ Tryz.func58 (by kernel_rfl) (fun ps r h=>by
 unfold cz at h;split at h
 ·rw[eq_58];exact h
 ·cases h)
theorem aaK:fS S JF:=fS.step aQ zh aaJ Tryz.func57 (by kernel_rfl) (fun ps r h=>by
 unfold bF at h;split at h
 ·rw[eq_57];exact h
 ·cases h)
theorem aaL:fS S IY:=fS.step aQ zh aaK Tryz.func56 (by kernel_rfl) (fun ps r h=>by
 unfold cy at h;split at h
 ·rw[eq_56];exact h
 ·cases h)
theorem aaM:fS S Jb:=fS.step aQ zh aaL Tryz.func59 (by kernel_rfl) (fun ps r h=>by
 unfold bM at h;split at h
 ·rw[eq_59];exact h
 ·cases h)
theorem aaN:fS S Jr:=fS.step aQ zh aaM Tryz.func54 (by kernel_rfl) (fun ps r h=>by
 unfold cg at h;split at h
 ·rw[eq_54];exact h
 ·cases h)
theorem aaO:fS S JG:=fS.step aQ zh aaN Tryz.func55 (by kernel_rfl) (fun ps r h=>by
 unfold cP at h;split at h
 ·rw[eq_55];exact h
 ·cases h)
theorem UU:fS S Ee:=fS.step aQ zh aaO Tryz.func53 (by kernel_rfl) (fun ps r h=>by
 unfold cw at h;split at h
 ·rw[eq_53];exact h
 ·cases h)
theorem UW:ar S Eg:=ar.step aQ zh UU Tryz.func12 (by kernel_rfl) (fun ps r h=>by
 unfold br at h;split at h
 ·rw[eq_12];exact h
 ·cases h)
theorem ij:fS S eL:=fS.step aQ UW UU Tryz.func82 (by kernel_rfl) (fun ps r h=>by
 unfold dc at h;split at h
 ·rw[eq_82];exact h
 ·cases h)
theorem aaP:ar S JH:=ar.step aQ UW ij Tryz.func85 (by kernel_rfl) (fun ps r h=>by
 unfold bO at h;split at h
 ·rw[eq_85];exact h
 ·cases h)
theorem aaQ:ar S IZ:=ar.step aQ aaP ij Tryz.func20 (by kernel_rfl) (fun ps r h=>by
 unfold e9 at h;split at h
 ·rw[eq_20];exact h
 ·cases h)
theorem aaR:ar S Jc:=ar.step aQ aaQ ij Tryz.func15 (by kernel_rfl) (fun ps r h=>by
 unfold aY at h;split at h
 ·rw[eq_15];exact h
 ·cases h)
theorem aaS:ar S Js:=ar.step aQ aaR ij Tryz.func75 (by kernel_rfl) (fun ps r h=>by
 unfold ca at h;split at h
 ·rw[eq_75];exact h
 ·cases h)
theorem aaT:ar S JI:=ar.step aQ aaS ij Tryz.func39 (by kernel_rfl) (fun ps r h=>by
 unfold fk at h;split at h
 ·rw[eq_39];exact h
 ·cases h)
theorem aaU:ar S Ef:=ar.step aQ aaT ij Tryz.func22 (by kernel_rfl) (fun ps r h=>by
 unfold bV at h;split at h
 ·rw[eq_22];exact h
 ·cases h)
theorem aaV:ar S Jd:=ar.step aQ aaU ij Tryz.func11 (by kernel_rfl) (fun ps r h=>by
 unfold c9 at h;split at h
 ·rw[eq_11];exact h
 ·cases h)
theorem aaW:ar S Jt:=ar.step aQ aaV ij Tryz.func86 (by kernel_rfl) (fun ps r h=>by
 unfold dZ at h;split at h
 ·rw[eq_86];exact h
 ·cases h)
theorem aaX:ar S JJ:=ar.step aQ aaW ij Tryz.func87 (by kernel_rfl) (fun ps r h=>by
 unfold bC at h;split at h
 ·rw[eq_87];exact h
 ·cases h)
theorem aaY:ar S I0:=ar.step aQ aaX ij Tryz.func74 (by kernel_rfl) (fun ps r h=>by
 unfold js at h;split at h
 ·rw[eq_74];exact h
 ·cases h)
theorem aaZ:ar S Je:=ar.step aQ aaY ij Tryz.func88 (by kernel_rfl) (fun ps r h=>by
 unfold jx at h;split at h
 ·rw[eq_88];exact h
 ·cases h)
theorem aa0:ar S Ju:=ar.step aQ aaZ ij Tryz.func72 (by kernel_rfl) (fun ps r h=>by
 unfold lf at h;split at h
 ·rw[eq_72];exact h
 ·cases h)
theorem aa1:ar S JK:=ar.step aQ aa0 ij Tryz.func96 (by kernel_rfl) (fun ps r h=>by
 unfold fe at h;split at h
 ·rw[eq_96];exact h
 ·cases h)
theorem aa2:ar S I1:=ar.step aQ aa1 ij Tryz.func89 (by kernel_rfl) (fun ps r h=>by
 unfold fo at h;split at h
 ·rw[eq_89];exact h
 ·cases h)
theorem aa3:ar S Jf:=ar.step aQ aa2 ij Tryz.func73 (by kernel_rfl) (fun ps r h=>by
 unfold ju at h;split at h
 ·rw[eq_73];exact h
 ·cases h)
theorem aa4:ar S Jv:=ar.step aQ aa3 ij Tryz.func70 (by kernel_rfl) (fun ps r h=>by
 unfold iH at h;split at h
 ·rw[eq_70];exact h
 ·cases h)
theorem aa5:ar S JL:=ar.step aQ aa4 ij Tryz.func34 (by kernel_rfl) (fun ps r h=>by
 unfold jt at h;split at h
 ·rw[eq_34];exact h
 ·cases h)
theorem aa6:ar S I2:=ar.step aQ aa5 ij Tryz.func71 (by kernel_rfl) (fun ps r h=>by
 unfold mz at h;split at h
 ·rw[eq_71];exact h
 ·cases h)
theorem aa7:ar S Jg:=ar.step aQ aa6 ij Tryz.func69 (by kernel_rfl) (fun ps r h=>by
 unfold jr at h;split at h
 ·rw[eq_69];exact h
 ·cases h)
theorem aa8:ar S Jw:=ar.step aQ aa7 ij Tryz.func38 (by kernel_rfl) (fun ps r h=>by
 unfold jy at h;split at h
 ·rw[eq_38];exact h
 ·cases h)
theorem aa9:ar S JM:=ar.step aQ aa8 ij Tryz.func19 (by kernel_rfl) (fun ps r h=>by
 unfold jz at h;split at h
 ·rw[eq_19];exact h
 ·cases h)
theorem aba:ar S I3:=ar.step aQ aa9 ij Tryz.func10 (by kernel_rfl) (fun ps r h=>by
 unfold jA at h;split at h
 ·rw[eq_10];exact h
 ·cases h)
theorem abb:ar S Jh:=ar.step aQ aba ij Tryz.func13 (by kernel_rfl) (fun ps r h=>by
 unfold iK at h;split at h
 ·rw[eq_13];exact h
 ·cases h)
theorem abc:ar S Rk:=ar.step aQ abb ij Tryz.func3 (by kernel_rfl) (fun ps r h=>by
 unfold dR at h;split at h
 ·rw[eq_3];exact h
 ·cases h)
end Go.Proofs.YtcmhmlnkhmefbaaGreat
