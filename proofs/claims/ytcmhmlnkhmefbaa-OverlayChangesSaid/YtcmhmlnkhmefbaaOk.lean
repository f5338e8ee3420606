import Derived.Test.YtcmhmlnkhmefbaaEq1
import Derived.Test.YtcmhmlnkhmefbaaEq2
import Derived.Test.YtcmhmlnkhmefbaaEq3
import Derived.Test.YtcmhmlnkhmefbaaEq4
import Derived.Test.YtcmhmlnkhmefbaaLays
import Derived.Test.YtcmhmlnkhmefbaaAbSortKOk
namespace Go.Proofs.Ytcmhmlnkhmefbaa
open Go.Ab
theorem C3:q8 S0:=⟨by kernel_rfl,(fun g h hh=>by cases hh),by kernel_rfl⟩
theorem W7:aC S0 NP:=aC.nil S0
theorem HE:fy S0 bD:=fy.nil S0
theorem W8:aC S0 NS:=aC.step C3 W7 HE Try.func66 (by kernel_rfl) (fun ps r h=>by
 unfold cy at h;split at h
 ·rw[eq_66];exact h
 ·cases h)
theorem W9:aC S0 NV:=aC.step C3 W8 HE Try.func65 (by kernel_rfl) (fun ps r h=>by
 unfold gb at h;split at h
 ·rw[eq_65];exact h
 ·cases h)
theorem R7:aC S0 Js:=aC.step C3 W9 HE Try.func64 (by kernel_rfl) (fun ps r h=>by
 unfold aZ at h;split at h
 ·rw[eq_64];exact h
 ·cases h)
theorem TZ(g:Nat)(M:List PV→Option PV)(h:Qy g=some M):qK S.P S.ax g M:=by
 unfold Qy at h;cases e:Nat.beq g 64 with
 |true=>rw[e]at h;have:=Nat.eq_of_beq_eq_true e;subst this;cases h;exact R7 (64,aZ) (q9 (by kernel_rfl))
 |false=>rw[e]at h;cases h
theorem aR:q8 S:=⟨by kernel_rfl,(fun g h hh R args f m k r hr=>by
 have hh:(bif Nat.beq g 63 then some (si 4 Qy)else none)=some h:=hh;cases e:Nat.beq g 63 with
 |true=>rw[e]at hh;have:=Nat.eq_of_beq_eq_true e;subst this;cases hh;exact CG QB rfl ⟨Try.f63,_,Try.func63,rfl,by kernel_rfl⟩ Try.isAgg93 Try.sizeOf93 TZ hr
 |false=>rw[e]at hh;cases hh),by kernel_rfl⟩
theorem aa2:aC S Js:=fun x hx=>R7 x hx
theorem dJ:fy S bD:=fy.nil S
theorem aa3:aC S NQ:=aC.step aR aa2 dJ Try.func9 (by kernel_rfl) (fun ps r h=>by
 unfold gv at h;split at h
 ·rw[eq_9];exact h
 ·cases h)
theorem aa4:aC S NT:=aC.step aR aa3 dJ Try.func10 (by kernel_rfl) (fun ps r h=>by
 unfold fq at h;split at h
 ·rw[eq_10];exact h
 ·cases h)
theorem aa5:aC S NW:=aC.step aR aa4 dJ Try.func8 (by kernel_rfl) (fun ps r h=>by
 unfold fe at h;split at h
 ·rw[eq_8];exact h
 ·cases h)
theorem aa6:aC S NX:=aC.step aR aa5 dJ Try.func55 (by kernel_rfl) (fun ps r h=>by
 unfold ji at h;split at h
 ·rw[eq_55];exact h
 ·cases h)
theorem aa7:aC S NR:=aC.step aR aa6 dJ Try.func46 (by kernel_rfl) (fun ps r h=>by
 unfold df at h;split at h
 ·rw[eq_46];exact h
 ·cases h)
theorem aa8:aC S NU:=aC.step aR aa7 dJ Try.func59 (by kernel_rfl) (fun ps r h=>by
 unfold eN at h;split at h
 ·rw[eq_59];exact h
 ·cases h)
theorem Xa:aC S GK:=aC.step aR aa8 dJ Try.func58 (by kernel_rfl) (fun ps r h=>by
 unfold dU at h;split at h
 ·rw[eq_58];exact h
 ·cases h)
theorem Xb:aC S GX:=aC.step aR Xa dJ Try.func32 (by kernel_rfl) (fun ps r h=>by
 unfold ga at h;split at h
 ·rw[eq_32];exact h
 ·cases h)
theorem Xc:aC S Gl:=aC.step aR Xb dJ Try.func31 (by kernel_rfl) (fun ps r h=>by
 unfold dd at h;split at h
 ·rw[eq_31];exact h
 ·cases h)
theorem Xd:aC S Gy:=aC.step aR Xc dJ Try.func30 (by kernel_rfl) (fun ps r h=>by
 unfold bp at h;split at h
 ·rw[eq_30];exact h
 ·cases h)
theorem Xe:aC S GL:=aC.step aR Xd dJ Try.func33 (by kernel_rfl) (fun ps r h=>by
 unfold dN at h;split at h
 ·rw[eq_33];exact h
 ·cases h)
theorem Xf:aC S GY:=aC.step aR Xe dJ Try.func34 (by kernel_rfl) (fun ps r h=>by
 unfold eX at h;split at h
 ·rw[eq_34];exact h
 ·cases h)
theorem Xg:aC S Gm:=aC.step aR Xf dJ Try.func17 (by kernel_rfl) (fun ps r h=>by
 unfold cm at h;split at h
 ·rw[eq_17];exact h
 ·cases h)
theorem Xh:aC S Gz:=aC.step aR Xg dJ Try.func48 (by kernel_rfl) (fun ps r h=>by
 unfold eF at h;split at h
 ·rw[eq_48];exact h
 ·cases h)
theorem Xi:aC S GM:=aC.step aR Xh dJ Try.func25 (by kernel_rfl) (fun ps r h=>by
 unfold aK at h;split at h
 ·rw[eq_25];exact h
 ·cases h)
theorem Xj:aC S GZ:=aC.step aR Xi dJ Try.func47 (by kernel_rfl) (fun ps r h=>by
 unfold bE at h;split at h
 ·rw[eq_47];exact h
 ·cases h)
theorem Xk:aC S Gn:=aC.step aR Xj dJ Try.func27 (by kernel_rfl) (fun ps r h=>by
 unfold bT at h;split at h
 ·rw[eq_27];exact h
 ·cases h)
theorem Xl:aC S GA:=aC.step aR Xk dJ Try.func85 (by kernel_rfl) (fun ps r h=>by
 unfold bZ at h;split at h
 ·rw[eq_85];exact h
 ·cases h)
theorem Xm:aC S GN:=aC.step aR Xl dJ Try.func71 (by kernel_rfl) (fun ps r h=>by
 unfold eg at h;split at h
 ·rw[eq_71];exact h
 ·cases h)
theorem Xn:aC S G0:=aC.step aR Xm dJ Try.func87 (by kernel_rfl) (fun ps r h=>by
 unfold dS at h;split at h
 ·rw[eq_87];exact h
 ·cases h)
theorem Xo:aC S Gp:=aC.step aR Xn dJ Try.func95 (by kernel_rfl) (fun ps r h=>by
 unfold au at h;split at h
 ·rw[eq_95];exact h
 ·cases h)
theorem Xp:aC S GB:=aC.step aR Xo dJ Try.func74 (by kernel_rfl) (fun ps r h=>by
 unfold cZ at h;split at h
 ·rw[eq_74];exact h
 ·cases h)
theorem Xq:aC S GO:=aC.step aR Xp dJ Try.func73 (by kernel_rfl) (fun ps r h=>by
 unfold dn at h;split at h
 ·rw[eq_73];exact h
 ·cases h)
theorem Xr:aC S G1:=aC.step aR Xq dJ Try.func72 (by kernel_rfl) (fun ps r h=>by
 unfold cF at h;split at h
 ·rw[eq_72];exact h
 ·cases h)
theorem Xs:aC S Gq:=aC.step aR Xr dJ Try.func67 (by kernel_rfl) (fun ps r h=>by
 unfold dH at h;split at h
 ·rw[eq_67];exact h
 ·cases h)
theorem Xt:aC S GC:=aC.step aR Xs dJ Try.func61 (by kernel_rfl) (fun ps r h=>by
 unfold bS at h;split at h
 ·rw[eq_61];exact h
 ·cases h)
theorem Xu:aC S GP:=aC.step aR Xt dJ Try.func57 (by kernel_rfl) (fun ps r h=>by
 unfold cE at h;split at h
 ·rw[eq_57];exact h
 ·cases h)
theorem Xv:aC S G2:=aC.step aR Xu dJ Try.func56 (by kernel_rfl) (fun ps r h=>by
 unfold ef at h;split at h
 ·rw[eq_56];exact h
 ·cases h)
theorem Xw:aC S Gs:=aC.step aR Xv dJ Try.func50 (by kernel_rfl) (fun ps r h=>by
 unfold cY at h;split at h
 ·rw[eq_50];exact h
 ·cases h)
theorem Xx:aC S GD:=aC.step aR Xw dJ Try.func29 (by kernel_rfl) (fun ps r h=>by
 unfold bl at h;split at h
 ·rw[eq_29];exact h
 ·cases h)
theorem Xy:aC S GQ:=aC.step aR Xx dJ Try.func26 (by kernel_rfl) (fun ps r h=>by
 unfold cX at h;split at h
 ·rw[eq_26];exact h
 ·cases h)
theorem Xz:aC S G3:=aC.step aR Xy dJ Try.func24 (by kernel_rfl) (fun ps r h=>by
 unfold ck at h;split at h
 ·rw[eq_24];exact h
 ·cases h)
theorem XA:aC S Gt:=aC.step aR Xz dJ Try.func49 (by kernel_rfl) (fun ps r h=>by
 unfold bf at h;split at h
 ·rw[eq_49];exact h
 ·cases h)
theorem XB:aC S GF:=aC.step aR XA dJ Try.func28 (by kernel_rfl) (fun ps r h=>by
 unfold cK at h;split at h
 ·rw[eq_28];exact h
 ·cases h)
theorem XC:aC S GR:=aC.step aR XB dJ Try.func45 (by kernel_rfl) (fun ps r h=>by
 unfold gu at h;split at h
 ·rw[eq_45];exact h
 ·cases h)
theorem XD:aC S G4:=aC.step aR XC dJ Try.func23 (by kernel_rfl) (fun ps r h=>by
 unfold fp at h;split at h
 ·rw[eq_23];exact h
 ·cases h)
theorem XE:aC S Gu:=aC.step aR XD dJ Try.func22 (by kernel_rfl) (fun ps r h=>by
 unfold fZ at h;split at h
 ·rw[eq_22];exact h
 ·cases h)
theorem xg:aC S ot:=aC.step aR XE dJ Try.func16 (by kernel_rfl) (fun ps r h=>by
 unfold dR at h;split at h
 ·rw[eq_16];exact h
 ·cases h)
theorem XF:fy S GS:=fy.step aR xg dJ Try.func40 (by kernel_rfl) (fun ps r h=>by
 unfold bW at h;split at h
 ·rw[eq_40];exact h
 ·cases h)
theorem XG:fy S G5:=fy.step aR xg XF Try.func39 (by kernel_rfl) (fun ps r h=>by
 unfold bm at h;split at h
 ·rw[eq_39];exact h
 ·cases h)
theorem XH:fy S Gv:=fy.step aR xg XG Try.func38 (by kernel_rfl) (fun ps r h=>by
 unfold bV at h;split at h
 ·rw[eq_38];exact h
 ·cases h)
theorem XI:fy S GG:=fy.step aR xg XH Try.func41 (by kernel_rfl) (fun ps r h=>by
 unfold bB at h;split at h
 ·rw[eq_41];exact h
 ·cases h)
theorem XJ:fy S GU:=fy.step aR xg XI Try.func36 (by kernel_rfl) (fun ps r h=>by
 unfold bI at h;split at h
 ·rw[eq_36];exact h
 ·cases h)
theorem XK:fy S G6:=fy.step aR xg XJ Try.func37 (by kernel_rfl) (fun ps r h=>by
 unfold cr at h;split at h
 ·rw[eq_37];exact h
 ·cases h)
theorem R8:fy S CH:=fy.step aR xg XK Try.func35 (by kernel_rfl) (fun ps r h=>by
 unfold bU at h;split at h
 ·rw[eq_35];exact h
 ·cases h)
theorem R9:aC S CJ:=aC.step aR xg R8 Try.func12 (by kernel_rfl) (fun ps r h=>by
 unfold bq at h;split at h
 ·rw[eq_12];exact h
 ·cases h)
theorem qi:fy S jX:=fy.step aR R9 R8 Try.func51 (by kernel_rfl) (fun ps r h=>by
 unfold cL at h;split at h
 ·rw[eq_51];exact h
 ·cases h)
theorem XL:aC S G7:=aC.step aR R9 qi Try.func54 (by kernel_rfl) (fun ps r h=>by
 unfold bC at h;split at h
 ·rw[eq_54];exact h
 ·cases h)
theorem XM:aC S Gw:=aC.step aR XL qi Try.func13 (by kernel_rfl) (fun ps r h=>by
 unfold eO at h;split at h
 ·rw[eq_13];exact h
 ·cases h)
theorem XN:aC S GH:=aC.step aR XM qi Try.func11 (by kernel_rfl) (fun ps r h=>by
 unfold aT at h;split at h
 ·rw[eq_11];exact h
 ·cases h)
theorem XO:aC S GV:=aC.step aR XN qi Try.func20 (by kernel_rfl) (fun ps r h=>by
 unfold bH at h;split at h
 ·rw[eq_20];exact h
 ·cases h)
theorem XP:aC S G8:=aC.step aR XO qi Try.func14 (by kernel_rfl) (fun ps r h=>by
 unfold eW at h;split at h
 ·rw[eq_14];exact h
 ·cases h)
theorem XQ:aC S CI:=aC.step aR XP qi Try.func6 (by kernel_rfl) (fun ps r h=>by
 unfold bt at h;split at h
 ·rw[eq_6];exact h
 ·cases h)
theorem XR:aC S GI:=aC.step aR XQ qi Try.func5 (by kernel_rfl) (fun ps r h=>by
 unfold dw at h;split at h
 ·rw[eq_5];exact h
 ·cases h)
theorem XS:aC S GW:=aC.step aR XR qi Try.func4 (by kernel_rfl) (fun ps r h=>by
 unfold gw at h;split at h
 ·rw[eq_4];exact h
 ·cases h)
theorem XT:aC S G9:=aC.step aR XS qi Try.func21 (by kernel_rfl) (fun ps r h=>by
 unfold fk at h;split at h
 ·rw[eq_21];exact h
 ·cases h)
theorem XU:aC S Gx:=aC.step aR XT qi Try.func15 (by kernel_rfl) (fun ps r h=>by
 unfold fM at h;split at h
 ·rw[eq_15];exact h
 ·cases h)
theorem XV:aC S GJ:=aC.step aR XU qi Try.func7 (by kernel_rfl) (fun ps r h=>by
 unfold gn at h;split at h
 ·rw[eq_7];exact h
 ·cases h)
theorem XW:aC S OA:=aC.step aR XV qi Try.func3 (by kernel_rfl) (fun ps r h=>by
 unfold dK at h;split at h
 ·rw[eq_3];exact h
 ·cases h)
end Go.Proofs.Ytcmhmlnkhmefbaa
