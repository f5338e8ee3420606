import Derived.Test.YtanikidijjaohaaGreatEq1
import Derived.Test.YtanikidijjaohaaGreatEq2
import Derived.Test.YtanikidijjaohaaGreatEq3
import Derived.Test.YtanikidijjaohaaGreatEq4
import Derived.Test.YtanikidijjaohaaGreatLays
import Derived.Test.YtanikidijjaohaaGreatAbSortKOk
import Derived.Test.YtanikidijjaohaaGreatExt
namespace Go.Proofs.YtanikidijjaohaaGreat
open Go.Ab
theorem Iz:vR S0:=⟨by kernel_rfl,(fun g h hh=>by cases hh),by kernel_rfl⟩
theorem acI:ab S0 ZL:=ab.nil S0
theorem Pa:uZ S0 ar:=uZ.nil S0
theorem acJ:ab S0 U4:=fun x hx=>(List.mem_cons.1 hx).elim (fun e=>e▸XK) (fun h=>acI x h)
theorem acK:ab S0 U7:=ab.step Iz acJ Pa Tryz.func120 (by kernel_rfl) (fun ps r h=>by
 unfold dW at h;split at h
 ·rw[eq_120];exact h
 ·cases h)
theorem acL:ab S0 U9:=ab.step Iz acK Pa Tryz.func119 (by kernel_rfl) (fun ps r h=>by
 unfold nc at h;split at h
 ·rw[eq_119];exact h
 ·cases h)
theorem ZM:ab S0 Qw:=ab.step Iz acL Pa Tryz.func118 (by kernel_rfl) (fun ps r h=>by
 unfold bR at h;split at h
 ·rw[eq_118];exact h
 ·cases h)
theorem aa9(g:Nat)(M:List PV→Option PV)(h:XH g=some M):tX S.P S.aD g M:=by
 unfold XH at h;cases e:Nat.beq g 118 with
 |true=>rw[e]at h;have:=Nat.eq_of_beq_eq_true e;subst this;cases h;exact ZM (118,bR) (mw (by kernel_rfl))
 |false=>rw[e]at h;cases h
theorem aw:vR S:=⟨by kernel_rfl,(fun g h hh R args f m k r hr=>by
 have hh:(bif Nat.beq g 117 then some (wZ 4 XH)else none)=some h:=hh;cases e:Nat.beq g 117 with
 |true=>rw[e]at hh;have:=Nat.eq_of_beq_eq_true e;subst this;cases hh;exact HM Yd rfl ⟨Tryz.f117,_,Tryz.func117,rfl,by kernel_rfl⟩ Tryz.isAgg98 Tryz.sizeOf98 aa9 hr
 |false=>rw[e]at hh;cases hh),by kernel_rfl⟩
theorem afX:ab S Qw:=fun x hx=>ZM x hx
theorem aN:uZ S ar:=uZ.nil S
theorem afY:ab S U5:=ab.step aw afX aN Tryz.func24 (by kernel_rfl) (fun ps r h=>by
 unfold bj at h;split at h
 ·rw[eq_24];exact h
 ·cases h)
theorem afZ:ab S U8:=ab.step aw afY aN Tryz.func72 (by kernel_rfl) (fun ps r h=>by
 unfold jn at h;split at h
 ·rw[eq_72];exact h
 ·cases h)
theorem af0:ab S Va:=ab.step aw afZ aN Tryz.func41 (by kernel_rfl) (fun ps r h=>by
 unfold aX at h;split at h
 ·rw[eq_41];exact h
 ·cases h)
theorem af1:ab S Vb:=ab.step aw af0 aN Tryz.func71 (by kernel_rfl) (fun ps r h=>by
 unfold cH at h;split at h
 ·rw[eq_71];exact h
 ·cases h)
theorem af2:ab S U6:=ab.step aw af1 aN Tryz.func43 (by kernel_rfl) (fun ps r h=>by
 unfold dE at h;split at h
 ·rw[eq_43];exact h
 ·cases h)
theorem acM:ab S M6:=ab.step aw af2 aN Tryz.func154 (by kernel_rfl) (fun ps r h=>by
 unfold dx at h;split at h
 ·rw[eq_154];exact h
 ·cases h)
theorem acN:ab S Nz:=ab.step aw acM aN Tryz.func140 (by kernel_rfl) (fun ps r h=>by
 unfold iD at h;split at h
 ·rw[eq_140];exact h
 ·cases h)
theorem acO:ab S NX:=ab.step aw acN aN Tryz.func156 (by kernel_rfl) (fun ps r h=>by
 unfold gp at h;split at h
 ·rw[eq_156];exact h
 ·cases h)
theorem acP:ab S MJ:=ab.step aw acO aN Tryz.func164 (by kernel_rfl) (fun ps r h=>by
 unfold aM at h;split at h
 ·rw[eq_164];exact h
 ·cases h)
theorem acQ:ab S M7:=ab.step aw acP aN Tryz.func143 (by kernel_rfl) (fun ps r h=>by
 unfold eY at h;split at h
 ·rw[eq_143];exact h
 ·cases h)
theorem acR:ab S NA:=ab.step aw acQ aN Tryz.func142 (by kernel_rfl) (fun ps r h=>by
 unfold fT at h;split at h
 ·rw[eq_142];exact h
 ·cases h)
theorem acS:ab S NY:=ab.step aw acR aN Tryz.func141 (by kernel_rfl) (fun ps r h=>by
 unfold eR at h;split at h
 ·rw[eq_141];exact h
 ·cases h)
theorem acT:ab S MK:=ab.step aw acS aN Tryz.func130 (by kernel_rfl) (fun ps r h=>by
 unfold fU at h;split at h
 ·rw[eq_130];exact h
 ·cases h)
theorem acU:ab S M8:=ab.step aw acT aN Tryz.func115 (by kernel_rfl) (fun ps r h=>by
 unfold dG at h;split at h
 ·rw[eq_115];exact h
 ·cases h)
theorem acV:ab S NB:=ab.step aw acU aN Tryz.func97 (by kernel_rfl) (fun ps r h=>by
 unfold eA at h;split at h
 ·rw[eq_97];exact h
 ·cases h)
theorem acW:ab S NZ:=ab.step aw acV aN Tryz.func96 (by kernel_rfl) (fun ps r h=>by
 unfold iB at h;split at h
 ·rw[eq_96];exact h
 ·cases h)
theorem acX:ab S ML:=ab.step aw acW aN Tryz.func74 (by kernel_rfl) (fun ps r h=>by
 unfold fi at h;split at h
 ·rw[eq_74];exact h
 ·cases h)
theorem acY:ab S M9:=ab.step aw acX aN Tryz.func45 (by kernel_rfl) (fun ps r h=>by
 unfold cu at h;split at h
 ·rw[eq_45];exact h
 ·cases h)
theorem acZ:ab S NC:=ab.step aw acY aN Tryz.func95 (by kernel_rfl) (fun ps r h=>by
 unfold ru at h;split at h
 ·rw[eq_95];exact h
 ·cases h)
theorem ac0:ab S N0:=ab.step aw acZ aN Tryz.func70 (by kernel_rfl) (fun ps r h=>by
 unfold mO at h;split at h
 ·rw[eq_70];exact h
 ·cases h)
theorem ac1:ab S MM:=ab.step aw ac0 aN Tryz.func68 (by kernel_rfl) (fun ps r h=>by
 unfold fy at h;split at h
 ·rw[eq_68];exact h
 ·cases h)
theorem ac2:ab S Na:=ab.step aw ac1 aN Tryz.func42 (by kernel_rfl) (fun ps r h=>by
 unfold fj at h;split at h
 ·rw[eq_42];exact h
 ·cases h)
theorem ac3:ab S ND:=ab.step aw ac2 aN Tryz.func40 (by kernel_rfl) (fun ps r h=>by
 unfold du at h;split at h
 ·rw[eq_40];exact h
 ·cases h)
theorem ac4:ab S N1:=ab.step aw ac3 aN Tryz.func73 (by kernel_rfl) (fun ps r h=>by
 unfold bO at h;split at h
 ·rw[eq_73];exact h
 ·cases h)
theorem ac5:ab S MN:=ab.step aw ac4 aN Tryz.func44 (by kernel_rfl) (fun ps r h=>by
 unfold dt at h;split at h
 ·rw[eq_44];exact h
 ·cases h)
theorem ac6:ab S Nb:=ab.step aw ac5 aN Tryz.func69 (by kernel_rfl) (fun ps r h=>by
 unfold og at h;split at h
 ·rw[eq_69];exact h
 ·cases h)
theorem ac7:ab S NF:=ab.step aw ac6 aN Tryz.func39 (by kernel_rfl) (fun ps r h=>by
 unfold la at h;split at h
 ·rw[eq_39];exact h
 ·cases h)
theorem ac8:ab S N2:=ab.step aw ac7 aN Tryz.func38 (by kernel_rfl) (fun ps r h=>by
 unfold mL at h;split at h
 ·rw[eq_38];exact h
 ·cases h)
theorem ac9:ab S MO:=ab.step aw ac8 aN Tryz.func23 (by kernel_rfl) (fun ps r h=>by
 unfold gn at h;split at h
 ·rw[eq_23];exact h
 ·cases h)
theorem ada:ab S Nc:=ab.step aw ac9 aN Tryz.func12 (by kernel_rfl) (fun ps r h=>by
 unfold bY at h;split at h
 ·rw[eq_12];exact h
 ·cases h)
theorem adb:ab S NG:=ab.step aw ada aN Tryz.func111 (by kernel_rfl) (fun ps r h=>by
 unfold kZ at h;split at h
 ·rw[eq_111];exact h
 ·cases h)
theorem ade:ab S N3:=ab.step aw adb aN Tryz.func127 (by kernel_rfl) (fun ps r h=>by
 unfold ez at h;split at h
 ·rw[eq_127];exact h
 ·cases h)
theorem adf:ab S MP:=ab.step aw ade aN Tryz.func139 (by kernel_rfl) (fun ps r h=>by
 unfold kW at h;split at h
 ·rw[eq_139];exact h
 ·cases h)
theorem adg:ab S Nf:=ab.step aw adf aN Tryz.func126 (by kernel_rfl) (fun ps r h=>by
 unfold ey at h;split at h
 ·rw[eq_126];exact h
 ·cases h)
theorem adh:ab S NH:=ab.step aw adg aN Tryz.func136 (by kernel_rfl) (fun ps r h=>by
 unfold ev at h;split at h
 ·rw[eq_136];exact h
 ·cases h)
theorem adi:ab S N4:=ab.step aw adh aN Tryz.func138 (by kernel_rfl) (fun ps r h=>by
 unfold fg at h;split at h
 ·rw[eq_138];exact h
 ·cases h)
theorem adj:ab S MQ:=ab.step aw adi aN Tryz.func134 (by kernel_rfl) (fun ps r h=>by
 unfold jl at h;split at h
 ·rw[eq_134];exact h
 ·cases h)
theorem adk:ab S Ng:=ab.step aw adj aN Tryz.func125 (by kernel_rfl) (fun ps r h=>by
 unfold fC at h;split at h
 ·rw[eq_125];exact h
 ·cases h)
theorem adl:ab S NI:=ab.step aw adk aN Tryz.func110 (by kernel_rfl) (fun ps r h=>by
 unfold kY at h;split at h
 ·rw[eq_110];exact h
 ·cases h)
theorem adm:ab S N5:=ab.step aw adl aN Tryz.func109 (by kernel_rfl) (fun ps r h=>by
 unfold iZ at h;split at h
 ·rw[eq_109];exact h
 ·cases h)
theorem adn:ab S MR:=ab.step aw adm aN Tryz.func86 (by kernel_rfl) (fun ps r h=>by
 unfold fp at h;split at h
 ·rw[eq_86];exact h
 ·cases h)
theorem ado:ab S Nh:=ab.step aw adn aN Tryz.func123 (by kernel_rfl) (fun ps r h=>by
 unfold kB at h;split at h
 ·rw[eq_123];exact h
 ·cases h)
theorem adp:ab S NJ:=ab.step aw ado aN Tryz.func107 (by kernel_rfl) (fun ps r h=>by
 unfold oH at h;split at h
 ·rw[eq_107];exact h
 ·cases h)
theorem adq:ab S N6:=ab.step aw adp aN Tryz.func108 (by kernel_rfl) (fun ps r h=>by
 unfold iw at h;split at h
 ·rw[eq_108];exact h
 ·cases h)
theorem adr:ab S MS:=ab.step aw adq aN Tryz.func122 (by kernel_rfl) (fun ps r h=>by
 unfold gy at h;split at h
 ·rw[eq_122];exact h
 ·cases h)
theorem ads:ab S Ni:=ab.step aw adr aN Tryz.func106 (by kernel_rfl) (fun ps r h=>by
 unfold jh at h;split at h
 ·rw[eq_106];exact h
 ·cases h)
theorem adt:ab S NK:=ab.step aw ads aN Tryz.func85 (by kernel_rfl) (fun ps r h=>by
 unfold jj at h;split at h
 ·rw[eq_85];exact h
 ·cases h)
theorem adu:ab S N7:=ab.step aw adt aN Tryz.func49 (by kernel_rfl) (fun ps r h=>by
 unfold iv at h;split at h
 ·rw[eq_49];exact h
 ·cases h)
theorem adv:ab S MT:=ab.step aw adu aN Tryz.func50 (by kernel_rfl) (fun ps r h=>by
 unfold kg at h;split at h
 ·rw[eq_50];exact h
 ·cases h)
theorem adw:ab S Nj:=ab.step aw adv aN Tryz.func28 (by kernel_rfl) (fun ps r h=>by
 unfold kh at h;split at h
 ·rw[eq_28];exact h
 ·cases h)
theorem adx:ab S NL:=ab.step aw adw aN Tryz.func91 (by kernel_rfl) (fun ps r h=>by
 unfold ay at h;split at h
 ·rw[eq_91];exact h
 ·cases h)
theorem ady:ab S N8:=ab.step aw adx aN Tryz.func103 (by kernel_rfl) (fun ps r h=>by
 unfold bA at h;split at h
 ·rw[eq_103];exact h
 ·cases h)
theorem adz:ab S MU:=ab.step aw ady aN Tryz.func104 (by kernel_rfl) (fun ps r h=>by
 unfold cz at h;split at h
 ·rw[eq_104];exact h
 ·cases h)
theorem adA:ab S Nk:=ab.step aw adz aN Tryz.func83 (by kernel_rfl) (fun ps r h=>by
 unfold bK at h;split at h
 ·rw[eq_83];exact h
 ·cases h)
theorem adB:ab S NM:=ab.step aw adA aN Tryz.func81 (by kernel_rfl) (fun ps r h=>by
 unfold bV at h;split at h
 ·rw[eq_81];exact h
 ·cases h)
theorem adC:ab S N9:=ab.step aw adB aN Tryz.func82 (by kernel_rfl) (fun ps r h=>by
 unfold cg at h;split at h
 ·rw[eq_82];exact h
 ·cases h)
theorem adD:ab S MV:=ab.step aw adC aN Tryz.func93 (by kernel_rfl) (fun ps r h=>by
 unfold cy at h;split at h
 ·rw[eq_93];exact h
 ·cases h)
theorem adE:ab S Nl:=ab.step aw adD aN Tryz.func94 (by kernel_rfl) (fun ps r h=>by
 unfold cQ at h;split at h
 ·rw[eq_94];exact h
 ·cases h)
theorem adF:ab S NN:=ab.step aw adE aN Tryz.func84 (by kernel_rfl) (fun ps r h=>by
 unfold dp at h;split at h
 ·rw[eq_84];exact h
 ·cases h)
theorem adG:ab S Oa:=ab.step aw adF aN Tryz.func58 (by kernel_rfl) (fun ps r h=>by
 unfold cU at h;split at h
 ·rw[eq_58];exact h
 ·cases h)
theorem adH:ab S MW:=ab.step aw adG aN Tryz.func57 (by kernel_rfl) (fun ps r h=>by
 unfold cr at h;split at h
 ·rw[eq_57];exact h
 ·cases h)
theorem adI:ab S Nn:=ab.step aw adH aN Tryz.func92 (by kernel_rfl) (fun ps r h=>by
 unfold dn at h;split at h
 ·rw[eq_92];exact h
 ·cases h)
theorem adJ:ab S NO:=ab.step aw adI aN Tryz.func60 (by kernel_rfl) (fun ps r h=>by
 unfold cd at h;split at h
 ·rw[eq_60];exact h
 ·cases h)
theorem adK:ab S Ob:=ab.step aw adJ aN Tryz.func59 (by kernel_rfl) (fun ps r h=>by
 unfold dC at h;split at h
 ·rw[eq_59];exact h
 ·cases h)
theorem adL:ab S MX:=ab.step aw adK aN Tryz.func31 (by kernel_rfl) (fun ps r h=>by
 unfold cY at h;split at h
 ·rw[eq_31];exact h
 ·cases h)
theorem adM:ab S Np:=ab.step aw adL aN Tryz.func48 (by kernel_rfl) (fun ps r h=>by
 unfold dq at h;split at h
 ·rw[eq_48];exact h
 ·cases h)
theorem adN:ab S NP:=ab.step aw adM aN Tryz.func27 (by kernel_rfl) (fun ps r h=>by
 unfold gm at h;split at h
 ·rw[eq_27];exact h
 ·cases h)
theorem adO:ab S Oc:=ab.step aw adN aN Tryz.func14 (by kernel_rfl) (fun ps r h=>by
 unfold bp at h;split at h
 ·rw[eq_14];exact h
 ·cases h)
theorem adP:ab S MY:=ab.step aw adO aN Tryz.func22 (by kernel_rfl) (fun ps r h=>by
 unfold iA at h;split at h
 ·rw[eq_22];exact h
 ·cases h)
theorem adQ:ab S Nq:=ab.step aw adP aN Tryz.func11 (by kernel_rfl) (fun ps r h=>by
 unfold aL at h;split at h
 ·rw[eq_11];exact h
 ·cases h)
theorem adR:ab S NQ:=ab.step aw adQ aN Tryz.func10 (by kernel_rfl) (fun ps r h=>by
 unfold eG at h;split at h
 ·rw[eq_10];exact h
 ·cases h)
theorem adS:ab S Od:=ab.step aw adR aN Tryz.func98 (by kernel_rfl) (fun ps r h=>by
 unfold ee at h;split at h
 ·rw[eq_98];exact h
 ·cases h)
theorem adT:ab S MZ:=ab.step aw adS aN Tryz.func99 (by kernel_rfl) (fun ps r h=>by
 unfold bB at h;split at h
 ·rw[eq_99];exact h
 ·cases h)
theorem adU:ab S Nr:=ab.step aw adT aN Tryz.func80 (by kernel_rfl) (fun ps r h=>by
 unfold lb at h;split at h
 ·rw[eq_80];exact h
 ·cases h)
theorem adV:ab S NR:=ab.step aw adU aN Tryz.func101 (by kernel_rfl) (fun ps r h=>by
 unfold lj at h;split at h
 ·rw[eq_101];exact h
 ·cases h)
theorem adW:ab S Oe:=ab.step aw adV aN Tryz.func78 (by kernel_rfl) (fun ps r h=>by
 unfold mU at h;split at h
 ·rw[eq_78];exact h
 ·cases h)
theorem adX:ab S M0:=ab.step aw adW aN Tryz.func121 (by kernel_rfl) (fun ps r h=>by
 unfold fE at h;split at h
 ·rw[eq_121];exact h
 ·cases h)
theorem adY:ab S Ns:=ab.step aw adX aN Tryz.func102 (by kernel_rfl) (fun ps r h=>by
 unfold fQ at h;split at h
 ·rw[eq_102];exact h
 ·cases h)
theorem adZ:ab S NS:=ab.step aw adY aN Tryz.func79 (by kernel_rfl) (fun ps r h=>by
 unfold lh at h;split at h
 ·rw[eq_79];exact h
 ·cases h)
theorem ad0:ab S Of:=ab.step aw adZ aN Tryz.func76 (by kernel_rfl) (fun ps r h=>by
 unfold kn at h;split at h
 ·rw[eq_76];exact h
 ·cases h)
theorem ad1:ab S M1:=ab.step aw ad0 aN Tryz.func100 (by kernel_rfl) (fun ps r h=>by
 unfold lf at h;split at h
 ·rw[eq_100];exact h
 ·cases h)
theorem ad2:ab S Nt:=ab.step aw ad1 aN Tryz.func77 (by kernel_rfl) (fun ps r h=>by
 unfold oK at h;split at h
 ·rw[eq_77];exact h
 ·cases h)
theorem ad3:ab S NT:=ab.step aw ad2 aN Tryz.func75 (by kernel_rfl) (fun ps r h=>by
 unfold k9 at h;split at h
 ·rw[eq_75];exact h
 ·cases h)
theorem ad4:ab S Og:=ab.step aw ad3 aN Tryz.func46 (by kernel_rfl) (fun ps r h=>by
 unfold lk at h;split at h
 ·rw[eq_46];exact h
 ·cases h)
theorem ad5:ab S M3:=ab.step aw ad4 aN Tryz.func25 (by kernel_rfl) (fun ps r h=>by
 unfold kU at h;split at h
 ·rw[eq_25];exact h
 ·cases h)
theorem ad6:ab S Nu:=ab.step aw ad5 aN Tryz.func47 (by kernel_rfl) (fun ps r h=>by
 unfold dU at h;split at h
 ·rw[eq_47];exact h
 ·cases h)
theorem ad7:ab S NU:=ab.step aw ad6 aN Tryz.func26 (by kernel_rfl) (fun ps r h=>by
 unfold fO at h;split at h
 ·rw[eq_26];exact h
 ·cases h)
theorem ad8:ab S Oh:=ab.step aw ad7 aN Tryz.func13 (by kernel_rfl) (fun ps r h=>by
 unfold dw at h;split at h
 ·rw[eq_13];exact h
 ·cases h)
theorem ad9:ab S M4:=ab.step aw ad8 aN Tryz.func3 (by kernel_rfl) (fun ps r h=>by
 unfold ek at h;split at h
 ·rw[eq_3];exact h
 ·cases h)
theorem aea:ab S Nv:=ab.step aw ad9 aN Tryz.func53 (by kernel_rfl) (fun ps r h=>by
 unfold gx at h;split at h
 ·rw[eq_53];exact h
 ·cases h)
theorem aeb:ab S NV:=ab.step aw aea aN Tryz.func51 (by kernel_rfl) (fun ps r h=>by
 unfold kV at h;split at h
 ·rw[eq_51];exact h
 ·cases h)
theorem aec:ab S Oi:=ab.step aw aeb aN Tryz.func87 (by kernel_rfl) (fun ps r h=>by
 unfold iu at h;split at h
 ·rw[eq_87];exact h
 ·cases h)
theorem aed:ab S M5:=ab.step aw aec aN Tryz.func52 (by kernel_rfl) (fun ps r h=>by
 unfold j6 at h;split at h
 ·rw[eq_52];exact h
 ·cases h)
theorem aee:ab S Ny:=ab.step aw aed aN Tryz.func61 (by kernel_rfl) (fun ps r h=>by
 unfold j4 at h;split at h
 ·rw[eq_61];exact h
 ·cases h)
theorem aef:ab S NW:=ab.step aw aee aN Tryz.func62 (by kernel_rfl) (fun ps r h=>by
 unfold mF at h;split at h
 ·rw[eq_62];exact h
 ·cases h)
theorem aba:ab S HU:=ab.step aw aef aN Tryz.func63 (by kernel_rfl) (fun ps r h=>by
 unfold mE at h;split at h
 ·rw[eq_63];exact h
 ·cases h)
theorem abb:ab S HN:=ab.step aw aba aN Tryz.func32 (by kernel_rfl) (fun ps r h=>by
 unfold fB at h;split at h
 ·rw[eq_32];exact h
 ·cases h)
theorem abc:ab S HS:=ab.step aw abb aN Tryz.func29 (by kernel_rfl) (fun ps r h=>by
 unfold q9 at h;split at h
 ·rw[eq_29];exact h
 ·cases h)
theorem abd:ab S HV:=ab.step aw abc aN Tryz.func5 (by kernel_rfl) (fun ps r h=>by
 unfold eQ at h;split at h
 ·rw[eq_5];exact h
 ·cases h)
theorem abe:ab S HO:=ab.step aw abd aN Tryz.func6 (by kernel_rfl) (fun ps r h=>by
 unfold cM at h;split at h
 ·rw[eq_6];exact h
 ·cases h)
theorem abf:ab S HQ:=ab.step aw abe aN Tryz.func16 (by kernel_rfl) (fun ps r h=>by
 unfold j8 at h;split at h
 ·rw[eq_16];exact h
 ·cases h)
theorem abg:ab S HT:=ab.step aw abf aN Tryz.func17 (by kernel_rfl) (fun ps r h=>by
 unfold oG at h;split at h
 ·rw[eq_17];exact h
 ·cases h)
theorem abh:ab S HW:=ab.step aw abg aN Tryz.func7 (by kernel_rfl) (fun ps r h=>by
 unfold fh at h;split at h
 ·rw[eq_7];exact h
 ·cases h)
theorem abi:ab S HP:=ab.step aw abh aN Tryz.func19 (by kernel_rfl) (fun ps r h=>by
 unfold eX at h;split at h
 ·rw[eq_19];exact h
 ·cases h)
theorem abj:ab S HR:=ab.step aw abi aN Tryz.func18 (by kernel_rfl) (fun ps r h=>by
 unfold j7 at h;split at h
 ·rw[eq_18];exact h
 ·cases h)
theorem E5:ab S xd:=ab.step aw abj aN Tryz.func8 (by kernel_rfl) (fun ps r h=>by
 unfold dV at h;split at h
 ·rw[eq_8];exact h
 ·cases h)
end Go.Proofs.YtanikidijjaohaaGreat
