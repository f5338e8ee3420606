import Derived.Test.YtanikidijjaohaaGreatEq1
import Derived.Test.YtanikidijjaohaaGreatEq2
import Derived.Test.YtanikidijjaohaaGreatEq3
import Derived.Test.YtanikidijjaohaaGreatEq4
import Derived.Test.YtanikidijjaohaaGreatLays
import Derived.Test.YtanikidijjaohaaGreatAbSortKOk
import Derived.Test.YtanikidijjaohaaGreatExt
namespace Go.Proofs.YtanikidijjaohaaGreat
open Go.Ab
theorem HN:vg S0:=⟨by kernel_rfl,(fun g h hh=>by cases hh),by kernel_rfl⟩
theorem ace:aa S0 YF:=aa.nil S0
theorem Og:uo S0 ar:=uo.nil S0
theorem acf:aa S0 TV:=fun x hx=>(afh.1 hx).elim (fun e=>e▸WD) (fun h=>ace x h)
theorem acg:aa S0 TY:=aa.step HN acf Og Tryz.func120 (by kernel_rfl) (fun ps r h=>by
 unfold dN at h;split at h
 ·rw[eq_120];exact h
 ·cases h)
theorem ach:aa S0 T3:=aa.step HN acg Og Tryz.func119 (by kernel_rfl) (fun ps r h=>by
 unfold mO at h;split at h
 ·rw[eq_119];exact h
 ·cases h)
theorem YG:aa S0 PM:=aa.step HN ach Og Tryz.func118 (by kernel_rfl) (fun ps r h=>by
 unfold bQ at h;split at h
 ·rw[eq_118];exact h
 ·cases h)
theorem aax(g:Nat)(M:List PV→Option PV)(h:WA g=some M):tr S.P S.aH g M:=by
 unfold WA at h;cases e:Nat.beq g 118 with
 |true=>rw[e]at h;have:=IT e;subst this;cases h;exact YG (118,bQ) (vh (by kernel_rfl))
 |false=>rw[e]at h;cases h
theorem au:vg S:=⟨by kernel_rfl,(fun g h hh R args f m k r hr=>by
 have hh:(bif Nat.beq g 117 then some (wM 4 WA)else none)=some h:=hh;cases e:Nat.beq g 117 with
 |true=>rw[e]at hh;have:=IT e;subst this;cases hh;exact G3 W6 rfl ⟨Tryz.f117,_,Tryz.func117,rfl,by kernel_rfl⟩ Tryz.isAgg98 Tryz.sizeOf98 aax hr
 |false=>rw[e]at hh;cases hh),by kernel_rfl⟩
theorem afb:aa S PM:=fun x hx=>YG x hx
theorem aP:uo S ar:=uo.nil S
theorem afc:aa S TW:=aa.step au afb aP Tryz.func24 (by kernel_rfl) (fun ps r h=>by
 unfold bj at h;split at h
 ·rw[eq_24];exact h
 ·cases h)
theorem afd:aa S TZ:=aa.step au afc aP Tryz.func72 (by kernel_rfl) (fun ps r h=>by
 unfold iT at h;split at h
 ·rw[eq_72];exact h
 ·cases h)
theorem afe:aa S T5:=aa.step au afd aP Tryz.func41 (by kernel_rfl) (fun ps r h=>by
 unfold ba at h;split at h
 ·rw[eq_41];exact h
 ·cases h)
theorem aff:aa S T6:=aa.step au afe aP Tryz.func71 (by kernel_rfl) (fun ps r h=>by
 unfold cz at h;split at h
 ·rw[eq_71];exact h
 ·cases h)
theorem afg:aa S TX:=aa.step au aff aP Tryz.func43 (by kernel_rfl) (fun ps r h=>by
 unfold dA at h;split at h
 ·rw[eq_43];exact h
 ·cases h)
theorem aci:aa S Mn:=aa.step au afg aP Tryz.func154 (by kernel_rfl) (fun ps r h=>by
 unfold dt at h;split at h
 ·rw[eq_154];exact h
 ·cases h)
theorem acj:aa S ML:=aa.step au aci aP Tryz.func140 (by kernel_rfl) (fun ps r h=>by
 unfold gW at h;split at h
 ·rw[eq_140];exact h
 ·cases h)
theorem ack:aa S M9:=aa.step au acj aP Tryz.func156 (by kernel_rfl) (fun ps r h=>by
 unfold fX at h;split at h
 ·rw[eq_156];exact h
 ·cases h)
theorem acm:aa S LZ:=aa.step au ack aP Tryz.func164 (by kernel_rfl) (fun ps r h=>by
 unfold aN at h;split at h
 ·rw[eq_164];exact h
 ·cases h)
theorem acn:aa S Mo:=aa.step au acm aP Tryz.func143 (by kernel_rfl) (fun ps r h=>by
 unfold eO at h;split at h
 ·rw[eq_143];exact h
 ·cases h)
theorem aco:aa S MM:=aa.step au acn aP Tryz.func142 (by kernel_rfl) (fun ps r h=>by
 unfold fL at h;split at h
 ·rw[eq_142];exact h
 ·cases h)
theorem acp:aa S Na:=aa.step au aco aP Tryz.func141 (by kernel_rfl) (fun ps r h=>by
 unfold eF at h;split at h
 ·rw[eq_141];exact h
 ·cases h)
theorem acq:aa S L2:=aa.step au acp aP Tryz.func130 (by kernel_rfl) (fun ps r h=>by
 unfold fM at h;split at h
 ·rw[eq_130];exact h
 ·cases h)
theorem acr:aa S Mp:=aa.step au acq aP Tryz.func115 (by kernel_rfl) (fun ps r h=>by
 unfold dC at h;split at h
 ·rw[eq_115];exact h
 ·cases h)
theorem acs:aa S MN:=aa.step au acr aP Tryz.func97 (by kernel_rfl) (fun ps r h=>by
 unfold ek at h;split at h
 ·rw[eq_97];exact h
 ·cases h)
theorem acu:aa S Nb:=aa.step au acs aP Tryz.func96 (by kernel_rfl) (fun ps r h=>by
 unfold gU at h;split at h
 ·rw[eq_96];exact h
 ·cases h)
theorem acv:aa S L3:=aa.step au acu aP Tryz.func74 (by kernel_rfl) (fun ps r h=>by
 unfold fa at h;split at h
 ·rw[eq_74];exact h
 ·cases h)
theorem acw:aa S Mq:=aa.step au acv aP Tryz.func45 (by kernel_rfl) (fun ps r h=>by
 unfold cn at h;split at h
 ·rw[eq_45];exact h
 ·cases h)
theorem acx:aa S MO:=aa.step au acw aP Tryz.func95 (by kernel_rfl) (fun ps r h=>by
 unfold qK at h;split at h
 ·rw[eq_95];exact h
 ·cases h)
theorem acy:aa S Nc:=aa.step au acx aP Tryz.func70 (by kernel_rfl) (fun ps r h=>by
 unfold mA at h;split at h
 ·rw[eq_70];exact h
 ·cases h)
theorem acz:aa S L4:=aa.step au acy aP Tryz.func68 (by kernel_rfl) (fun ps r h=>by
 unfold fm at h;split at h
 ·rw[eq_68];exact h
 ·cases h)
theorem acA:aa S Mr:=aa.step au acz aP Tryz.func42 (by kernel_rfl) (fun ps r h=>by
 unfold fb at h;split at h
 ·rw[eq_42];exact h
 ·cases h)
theorem acB:aa S MP:=aa.step au acA aP Tryz.func40 (by kernel_rfl) (fun ps r h=>by
 unfold dp at h;split at h
 ·rw[eq_40];exact h
 ·cases h)
theorem acC:aa S Nf:=aa.step au acB aP Tryz.func73 (by kernel_rfl) (fun ps r h=>by
 unfold bO at h;split at h
 ·rw[eq_73];exact h
 ·cases h)
theorem acD:aa S L5:=aa.step au acC aP Tryz.func44 (by kernel_rfl) (fun ps r h=>by
 unfold dn at h;split at h
 ·rw[eq_44];exact h
 ·cases h)
theorem acE:aa S Ms:=aa.step au acD aP Tryz.func69 (by kernel_rfl) (fun ps r h=>by
 unfold nM at h;split at h
 ·rw[eq_69];exact h
 ·cases h)
theorem acF:aa S MQ:=aa.step au acE aP Tryz.func39 (by kernel_rfl) (fun ps r h=>by
 unfold kU at h;split at h
 ·rw[eq_39];exact h
 ·cases h)
theorem acG:aa S Ng:=aa.step au acF aP Tryz.func38 (by kernel_rfl) (fun ps r h=>by
 unfold mw at h;split at h
 ·rw[eq_38];exact h
 ·cases h)
theorem acH:aa S L6:=aa.step au acG aP Tryz.func23 (by kernel_rfl) (fun ps r h=>by
 unfold fW at h;split at h
 ·rw[eq_23];exact h
 ·cases h)
theorem acI:aa S Mt:=aa.step au acH aP Tryz.func12 (by kernel_rfl) (fun ps r h=>by
 unfold dY at h;split at h
 ·rw[eq_12];exact h
 ·cases h)
theorem acJ:aa S MR:=aa.step au acI aP Tryz.func111 (by kernel_rfl) (fun ps r h=>by
 unfold kP at h;split at h
 ·rw[eq_111];exact h
 ·cases h)
theorem acK:aa S Nh:=aa.step au acJ aP Tryz.func127 (by kernel_rfl) (fun ps r h=>by
 unfold ei at h;split at h
 ·rw[eq_127];exact h
 ·cases h)
theorem acL:aa S L7:=aa.step au acK aP Tryz.func139 (by kernel_rfl) (fun ps r h=>by
 unfold kN at h;split at h
 ·rw[eq_139];exact h
 ·cases h)
theorem acM:aa S Mu:=aa.step au acL aP Tryz.func126 (by kernel_rfl) (fun ps r h=>by
 unfold eh at h;split at h
 ·rw[eq_126];exact h
 ·cases h)
theorem acN:aa S MS:=aa.step au acM aP Tryz.func136 (by kernel_rfl) (fun ps r h=>by
 unfold eg at h;split at h
 ·rw[eq_136];exact h
 ·cases h)
theorem acO:aa S Ni:=aa.step au acN aP Tryz.func138 (by kernel_rfl) (fun ps r h=>by
 unfold e8 at h;split at h
 ·rw[eq_138];exact h
 ·cases h)
theorem acP:aa S L8:=aa.step au acO aP Tryz.func134 (by kernel_rfl) (fun ps r h=>by
 unfold iR at h;split at h
 ·rw[eq_134];exact h
 ·cases h)
theorem acQ:aa S Mv:=aa.step au acP aP Tryz.func125 (by kernel_rfl) (fun ps r h=>by
 unfold fu at h;split at h
 ·rw[eq_125];exact h
 ·cases h)
theorem acR:aa S MT:=aa.step au acQ aP Tryz.func110 (by kernel_rfl) (fun ps r h=>by
 unfold kO at h;split at h
 ·rw[eq_110];exact h
 ·cases h)
theorem acS:aa S Nj:=aa.step au acR aP Tryz.func109 (by kernel_rfl) (fun ps r h=>by
 unfold iB at h;split at h
 ·rw[eq_109];exact h
 ·cases h)
theorem acT:aa S L9:=aa.step au acS aP Tryz.func86 (by kernel_rfl) (fun ps r h=>by
 unfold fi at h;split at h
 ·rw[eq_86];exact h
 ·cases h)
theorem acU:aa S Mw:=aa.step au acT aP Tryz.func123 (by kernel_rfl) (fun ps r h=>by
 unfold kh at h;split at h
 ·rw[eq_123];exact h
 ·cases h)
theorem acV:aa S MU:=aa.step au acU aP Tryz.func107 (by kernel_rfl) (fun ps r h=>by
 unfold oa at h;split at h
 ·rw[eq_107];exact h
 ·cases h)
theorem acW:aa S Nk:=aa.step au acV aP Tryz.func108 (by kernel_rfl) (fun ps r h=>by
 unfold gQ at h;split at h
 ·rw[eq_108];exact h
 ·cases h)
theorem acX:aa S Ma:=aa.step au acW aP Tryz.func122 (by kernel_rfl) (fun ps r h=>by
 unfold gh at h;split at h
 ·rw[eq_122];exact h
 ·cases h)
theorem acY:aa S My:=aa.step au acX aP Tryz.func106 (by kernel_rfl) (fun ps r h=>by
 unfold iP at h;split at h
 ·rw[eq_106];exact h
 ·cases h)
theorem acZ:aa S MV:=aa.step au acY aP Tryz.func85 (by kernel_rfl) (fun ps r h=>by
 unfold iQ at h;split at h
 ·rw[eq_85];exact h
 ·cases h)
theorem ac0:aa S Nl:=aa.step au acZ aP Tryz.func49 (by kernel_rfl) (fun ps r h=>by
 unfold gP at h;split at h
 ·rw[eq_49];exact h
 ·cases h)
theorem ac1:aa S Mb:=aa.step au ac0 aP Tryz.func50 (by kernel_rfl) (fun ps r h=>by
 unfold jW at h;split at h
 ·rw[eq_50];exact h
 ·cases h)
theorem ac2:aa S Mz:=aa.step au ac1 aP Tryz.func28 (by kernel_rfl) (fun ps r h=>by
 unfold jX at h;split at h
 ·rw[eq_28];exact h
 ·cases h)
theorem ac3:aa S MW:=aa.step au ac2 aP Tryz.func91 (by kernel_rfl) (fun ps r h=>by
 unfold az at h;split at h
 ·rw[eq_91];exact h
 ·cases h)
theorem ac4:aa S Nn:=aa.step au ac3 aP Tryz.func103 (by kernel_rfl) (fun ps r h=>by
 unfold bC at h;split at h
 ·rw[eq_103];exact h
 ·cases h)
theorem ac5:aa S Mc:=aa.step au ac4 aP Tryz.func104 (by kernel_rfl) (fun ps r h=>by
 unfold cq at h;split at h
 ·rw[eq_104];exact h
 ·cases h)
theorem ac6:aa S MA:=aa.step au ac5 aP Tryz.func83 (by kernel_rfl) (fun ps r h=>by
 unfold bK at h;split at h
 ·rw[eq_83];exact h
 ·cases h)
theorem ac7:aa S MX:=aa.step au ac6 aP Tryz.func81 (by kernel_rfl) (fun ps r h=>by
 unfold bV at h;split at h
 ·rw[eq_81];exact h
 ·cases h)
theorem ac8:aa S Np:=aa.step au ac7 aP Tryz.func82 (by kernel_rfl) (fun ps r h=>by
 unfold ca at h;split at h
 ·rw[eq_82];exact h
 ·cases h)
theorem ac9:aa S Md:=aa.step au ac8 aP Tryz.func93 (by kernel_rfl) (fun ps r h=>by
 unfold cp at h;split at h
 ·rw[eq_93];exact h
 ·cases h)
theorem ada:aa S MB:=aa.step au ac9 aP Tryz.func94 (by kernel_rfl) (fun ps r h=>by
 unfold cJ at h;split at h
 ·rw[eq_94];exact h
 ·cases h)
theorem adb:aa S MY:=aa.step au ada aP Tryz.func84 (by kernel_rfl) (fun ps r h=>by
 unfold dh at h;split at h
 ·rw[eq_84];exact h
 ·cases h)
theorem ade:aa S Nq:=aa.step au adb aP Tryz.func58 (by kernel_rfl) (fun ps r h=>by
 unfold cS at h;split at h
 ·rw[eq_58];exact h
 ·cases h)
theorem adf:aa S Me:=aa.step au ade aP Tryz.func57 (by kernel_rfl) (fun ps r h=>by
 unfold cm at h;split at h
 ·rw[eq_57];exact h
 ·cases h)
theorem adg:aa S MC:=aa.step au adf aP Tryz.func92 (by kernel_rfl) (fun ps r h=>by
 unfold dg at h;split at h
 ·rw[eq_92];exact h
 ·cases h)
theorem adh:aa S MZ:=aa.step au adg aP Tryz.func60 (by kernel_rfl) (fun ps r h=>by
 unfold bZ at h;split at h
 ·rw[eq_60];exact h
 ·cases h)
theorem adi:aa S Nr:=aa.step au adh aP Tryz.func59 (by kernel_rfl) (fun ps r h=>by
 unfold dy at h;split at h
 ·rw[eq_59];exact h
 ·cases h)
theorem adj:aa S Mf:=aa.step au adi aP Tryz.func31 (by kernel_rfl) (fun ps r h=>by
 unfold dM at h;split at h
 ·rw[eq_31];exact h
 ·cases h)
theorem adk:aa S MD:=aa.step au adj aP Tryz.func48 (by kernel_rfl) (fun ps r h=>by
 unfold dm at h;split at h
 ·rw[eq_48];exact h
 ·cases h)
theorem adl:aa S M0:=aa.step au adk aP Tryz.func27 (by kernel_rfl) (fun ps r h=>by
 unfold iO at h;split at h
 ·rw[eq_27];exact h
 ·cases h)
theorem adm:aa S Ns:=aa.step au adl aP Tryz.func14 (by kernel_rfl) (fun ps r h=>by
 unfold cy at h;split at h
 ·rw[eq_14];exact h
 ·cases h)
theorem adn:aa S Mg:=aa.step au adm aP Tryz.func22 (by kernel_rfl) (fun ps r h=>by
 unfold gT at h;split at h
 ·rw[eq_22];exact h
 ·cases h)
theorem ado:aa S ME:=aa.step au adn aP Tryz.func11 (by kernel_rfl) (fun ps r h=>by
 unfold dz at h;split at h
 ·rw[eq_11];exact h
 ·cases h)
theorem adp:aa S M1:=aa.step au ado aP Tryz.func10 (by kernel_rfl) (fun ps r h=>by
 unfold kS at h;split at h
 ·rw[eq_10];exact h
 ·cases h)
theorem adq:aa S Nt:=aa.step au adp aP Tryz.func98 (by kernel_rfl) (fun ps r h=>by
 unfold dS at h;split at h
 ·rw[eq_98];exact h
 ·cases h)
theorem adr:aa S Mh:=aa.step au adq aP Tryz.func99 (by kernel_rfl) (fun ps r h=>by
 unfold bD at h;split at h
 ·rw[eq_99];exact h
 ·cases h)
theorem ads:aa S MF:=aa.step au adr aP Tryz.func80 (by kernel_rfl) (fun ps r h=>by
 unfold kV at h;split at h
 ·rw[eq_80];exact h
 ·cases h)
theorem adt:aa S M3:=aa.step au ads aP Tryz.func101 (by kernel_rfl) (fun ps r h=>by
 unfold kY at h;split at h
 ·rw[eq_101];exact h
 ·cases h)
theorem adu:aa S Nu:=aa.step au adt aP Tryz.func78 (by kernel_rfl) (fun ps r h=>by
 unfold mG at h;split at h
 ·rw[eq_78];exact h
 ·cases h)
theorem adv:aa S Mi:=aa.step au adu aP Tryz.func121 (by kernel_rfl) (fun ps r h=>by
 unfold fv at h;split at h
 ·rw[eq_121];exact h
 ·cases h)
theorem adw:aa S MG:=aa.step au adv aP Tryz.func102 (by kernel_rfl) (fun ps r h=>by
 unfold fI at h;split at h
 ·rw[eq_102];exact h
 ·cases h)
theorem adx:aa S M4:=aa.step au adw aP Tryz.func79 (by kernel_rfl) (fun ps r h=>by
 unfold kX at h;split at h
 ·rw[eq_79];exact h
 ·cases h)
theorem ady:aa S Nv:=aa.step au adx aP Tryz.func76 (by kernel_rfl) (fun ps r h=>by
 unfold jZ at h;split at h
 ·rw[eq_76];exact h
 ·cases h)
theorem adz:aa S Mj:=aa.step au ady aP Tryz.func100 (by kernel_rfl) (fun ps r h=>by
 unfold kW at h;split at h
 ·rw[eq_100];exact h
 ·cases h)
theorem adA:aa S MH:=aa.step au adz aP Tryz.func77 (by kernel_rfl) (fun ps r h=>by
 unfold og at h;split at h
 ·rw[eq_77];exact h
 ·cases h)
theorem adB:aa S M5:=aa.step au adA aP Tryz.func75 (by kernel_rfl) (fun ps r h=>by
 unfold kT at h;split at h
 ·rw[eq_75];exact h
 ·cases h)
theorem adC:aa S Ny:=aa.step au adB aP Tryz.func46 (by kernel_rfl) (fun ps r h=>by
 unfold kZ at h;split at h
 ·rw[eq_46];exact h
 ·cases h)
theorem adD:aa S Mk:=aa.step au adC aP Tryz.func25 (by kernel_rfl) (fun ps r h=>by
 unfold iV at h;split at h
 ·rw[eq_25];exact h
 ·cases h)
theorem adE:aa S MI:=aa.step au adD aP Tryz.func47 (by kernel_rfl) (fun ps r h=>by
 unfold dL at h;split at h
 ·rw[eq_47];exact h
 ·cases h)
theorem adF:aa S M6:=aa.step au adE aP Tryz.func26 (by kernel_rfl) (fun ps r h=>by
 unfold fD at h;split at h
 ·rw[eq_26];exact h
 ·cases h)
theorem adG:aa S Ml:=aa.step au adF aP Tryz.func13 (by kernel_rfl) (fun ps r h=>by
 unfold fE at h;split at h
 ·rw[eq_13];exact h
 ·cases h)
theorem adH:aa S MJ:=aa.step au adG aP Tryz.func53 (by kernel_rfl) (fun ps r h=>by
 unfold gg at h;split at h
 ·rw[eq_53];exact h
 ·cases h)
theorem adI:aa S M7:=aa.step au adH aP Tryz.func51 (by kernel_rfl) (fun ps r h=>by
 unfold kK at h;split at h
 ·rw[eq_51];exact h
 ·cases h)
theorem adJ:aa S Nz:=aa.step au adI aP Tryz.func87 (by kernel_rfl) (fun ps r h=>by
 unfold gO at h;split at h
 ·rw[eq_87];exact h
 ·cases h)
theorem adK:aa S Mm:=aa.step au adJ aP Tryz.func52 (by kernel_rfl) (fun ps r h=>by
 unfold jS at h;split at h
 ·rw[eq_52];exact h
 ·cases h)
theorem adL:aa S MK:=aa.step au adK aP Tryz.func61 (by kernel_rfl) (fun ps r h=>by
 unfold gM at h;split at h
 ·rw[eq_61];exact h
 ·cases h)
theorem adM:aa S M8:=aa.step au adL aP Tryz.func62 (by kernel_rfl) (fun ps r h=>by
 unfold mh at h;split at h
 ·rw[eq_62];exact h
 ·cases h)
theorem aay:aa S Hg:=aa.step au adM aP Tryz.func63 (by kernel_rfl) (fun ps r h=>by
 unfold mf at h;split at h
 ·rw[eq_63];exact h
 ·cases h)
theorem aaz:aa S G5:=aa.step au aay aP Tryz.func32 (by kernel_rfl) (fun ps r h=>by
 unfold gN at h;split at h
 ·rw[eq_32];exact h
 ·cases h)
theorem aaA:aa S G9:=aa.step au aaz aP Tryz.func29 (by kernel_rfl) (fun ps r h=>by
 unfold qA at h;split at h
 ·rw[eq_29];exact h
 ·cases h)
theorem aaB:aa S Hd:=aa.step au aaA aP Tryz.func90 (by kernel_rfl) (fun ps r h=>by
 unfold jV at h;split at h
 ·rw[eq_90];exact h
 ·cases h)
theorem aaC:aa S Hh:=aa.step au aaB aP Tryz.func128 (by kernel_rfl) (fun ps r h=>by
 unfold ml at h;split at h
 ·rw[eq_128];exact h
 ·cases h)
theorem aaD:aa S G6:=aa.step au aaC aP Tryz.func129 (by kernel_rfl) (fun ps r h=>by
 unfold eE at h;split at h
 ·rw[eq_129];exact h
 ·cases h)
theorem aaE:aa S Ha:=aa.step au aaD aP Tryz.func113 (by kernel_rfl) (fun ps r h=>by
 unfold jT at h;split at h
 ·rw[eq_113];exact h
 ·cases h)
theorem aaF:aa S He:=aa.step au aaE aP Tryz.func114 (by kernel_rfl) (fun ps r h=>by
 unfold e9 at h;split at h
 ·rw[eq_114];exact h
 ·cases h)
theorem aaG:aa S Hi:=aa.step au aaF aP Tryz.func89 (by kernel_rfl) (fun ps r h=>by
 unfold kQ at h;split at h
 ·rw[eq_89];exact h
 ·cases h)
theorem aaH:aa S G7:=aa.step au aaG aP Tryz.func112 (by kernel_rfl) (fun ps r h=>by
 unfold iW at h;split at h
 ·rw[eq_112];exact h
 ·cases h)
theorem aaI:aa S Hb:=aa.step au aaH aP Tryz.func88 (by kernel_rfl) (fun ps r h=>by
 unfold kM at h;split at h
 ·rw[eq_88];exact h
 ·cases h)
theorem aaJ:aa S Hf:=aa.step au aaI aP Tryz.func54 (by kernel_rfl) (fun ps r h=>by
 unfold kg at h;split at h
 ·rw[eq_54];exact h
 ·cases h)
theorem aaK:aa S Hj:=aa.step au aaJ aP Tryz.func55 (by kernel_rfl) (fun ps r h=>by
 unfold mq at h;split at h
 ·rw[eq_55];exact h
 ·cases h)
theorem aaL:aa S G8:=aa.step au aaK aP Tryz.func30 (by kernel_rfl) (fun ps r h=>by
 unfold ob at h;split at h
 ·rw[eq_30];exact h
 ·cases h)
theorem aaM:aa S Hc:=aa.step au aaL aP Tryz.func15 (by kernel_rfl) (fun ps r h=>by
 unfold kR at h;split at h
 ·rw[eq_15];exact h
 ·cases h)
theorem aaN:aa S Qq:=aa.step au aaM aP Tryz.func4 (by kernel_rfl) (fun ps r h=>by
 unfold ec at h;split at h
 ·rw[eq_4];exact h
 ·cases h)
end Go.Proofs.YtanikidijjaohaaGreat
