/- For every input the statement ExplainSound holds: the call returns true, and the arguments read behind the call as they read before. No condition. -/
import Derived.Test.YtmbihgjlollbeaaGreatOk
import Derived.Test.YtmbihgjlollbeaaGreatShp
import Derived.Test.YtmbihgjlollbeaaGreatEfP2
import Derived.Test.YtmbihgjlollbeaaGreatRows
namespace Go.Proofs.YtmbihgjlollbeaaGreat
open Go.ChangeShapes Go.WideShapes Go.ChangeAt Go.RowKit Go.Ab
theorem ahw:ownKnob Tryz.prog.godebug=none:=by kernel_rfl
theorem Ua:laidOutB Tryz.prog=true:=by kernel_rfl
theorem aeB:tY Tryz.prog 9 51=true:=by kernel_rfl
theorem ajc:ax Tryz.prog 51=true:=by kernel_rfl
theorem abp{g:Nat}{M:List PV→Option PV}(hl:Ab.look RY g=some M){W:World}{xs:Array Value}{ps:List PV}(hM:M ps=some (.bool true))(hn:ps.length=xs.size)(hr:∀(i:Nat)p x,ps[i]?=some p→xs[i]?=some x→ah Tryz.prog (jd W) p x):Calls Tryz.prog g xs W fun e W'=>e=.returned (.bool true)∧Below W.heap.size W W':=by have hs:=aew (g,M) (xV hl);refine(hs.2 ps (.bool true) hM W (jd W) xs (fun _ _ h=>h) (fun g cs h=>by cases h) hn hr).mono ?_;rintro e w' ⟨y,rfl,hb,hy⟩;cases hy;exact⟨rfl,hb.toBelow⟩
set_option maxRecDepth 100000 in
theorem Ko(os:Os)(started:os.Started)(H:Type)(enc:TypeId×Value→H):ReturnsInHanded {} Tryz.checked os 6 .any (Rows.explainSoundSpec.pre6 enc Tryz.prog Tryz.f6 Rows.explainSoundRow.domain false) (Rows.explainSoundSpec.post enc Tryz.prog Tryz.f6 false true false false):=by
 refine returnsInHanded_of_change (C:=Tryz.checked) ahw started (by kernel_rfl) Tryz.func6 (ChangeSpec.witness6 (enc:=enc) (C:=Tryz.checked) false ⟨#[],#[.agg #[.slice none 0 0,.slice none 0 0,.slice none 0 0,.slice none 0 0,.slice none 0 0,.slice none 0 0,.slice none 0 0,.slice none 0 0,.slice none 0 0,.slice none 0 0,.int .i64 0,.int .i64 0,.int .i64 0,.slice none 0 0,.slice none 0 0,.slice none 0 0,.slice none 0 0,.slice none 0 0,.slice none 0 0,.int .i64 0,.int .i64 0,.int .i64 0,.int .i64 0,.int .i64 0,.int .i64 0,.bool false,.int .i64 0,.int .i64 0,.bool false,.bool false,.int .i64 0,.bool false,.slice none 0 0,.int .i64 0,.int .i64 0,.int .i64 0,.int .i64 0,.int .i64 0,.slice none 0 0],.int .i64 0,.int .i64 0],[]⟩ 8 (by kernel_rfl) (by kernel_rfl) (by kernel_rfl) (by kernel_rfl)) ?_;intro W base args ds gs before acG hW aka _;have abq:∀(j:Nat)t v,Tryz.f6.params[j]?=some t→args[j]?=some v→Value.okWide Tryz.prog W .any base t v:=acG;have hW':=hW;obtain⟨p,q,hA0,hV,rfl,hfz,hnd⟩:=hW;have hA:DataW.TrodAll enc Tryz.prog W 0 (fun _=>true) true Tryz.f6.params.toList args.toList ds p:=hA0;rw[Tryz.params6]at hA abq;obtain⟨v0,vs0,d0,ds0,p0,q0,sn,rfl,rfl,h0,r0⟩:=trodAll_cons hA;obtain⟨v1,vs1,d1,ds1,p1,q1,rfl,rfl,rfl,h1,r1⟩:=trodAll_cons r0;obtain⟨v2,vs2,d2,ds2,p2,q2,rfl,rfl,rfl,h2,r2⟩:=trodAll_cons r1;obtain⟨rfl,rfl,rfl⟩:=trodAll_nil r2;obtain rfl:args= #[v0,v1,v2]:=by cases args;simp_all
 obtain⟨rfl,rfl⟩:=trodVars_none hV;have k0:=h0;have lt0:∀x∈p0,x.block<W.heap.size:=by obtain⟨m,hm⟩:=k0;exact DataW.trod_lt m _ _ _ hm
 obtain⟨ps0,Qw,hr0⟩:=aak (d:=8) aeB (abq 0 51 v0 rfl rfl) h0;rw[ajc]at hr0;obtain⟨cT,cN,cQ,cO,hT0,okT,okN,okQ,okO⟩:=YX Qw;rw[hT0]at hr0;obtain⟨a1,rfl,rfl,rfl,w1⟩:=open_int Tryz.underlying3 (abq 1 3 v1 rfl rfl) h1;have hr1:ah Tryz.prog (jd W) (.int .i64 a1) (.int .i64 a1):=.int w1;obtain⟨a2,rfl,rfl,rfl,w2⟩:=open_int Tryz.underlying3 (abq 2 3 v2 rfl rfl) h2;have NP:ah Tryz.prog (jd W) (.int .i64 a2) (.int .i64 a2):=.int w2;clear hA0 acG;refine(abp (g:=6) (M:=gA) (ps:=[Tt.F5 cT cN cQ cO,.int .i64 a1,.int .i64 a2]) (by kernel_rfl) (Tt.Tv cT cN cQ cO a1 a2 okT okN okQ okO w1 w2) rfl (fun i p x hp hx=>?_)).mono fun e W'⟨he,bel⟩=>?_
 ·match i with
  |0=>simp at hp hx;subst hp;subst hx;exact hr0
  |1=>simp at hp hx;subst hp;subst hx;exact hr1
  |2=>simp at hp hx;subst hp;subst hx;exact NP
  |i+3=>simp at hp
 subst he;exact⟨_,rfl,_,_,_,[],_,[],hW',trodAll_mk1 (shut_bool Tryz.underlying4 _),(trodAll_cons_mk (Below.trod Ua (by kernel_rfl) (of_decide_eq_true (by kernel_rfl)) k0 bel lt0) (trodAll_cons_mk (shut_int Tryz.underlying3 w1) (trodAll_cons_mk (shut_int Tryz.underlying3 w2) trodAll_mk0))),rfl,bel.frame _,fun h=>by cases h⟩
theorem jf0:(Rows.explainSoundRow.inPlace==Tryz.prog.inPlace 6)=true:=by kernel_rfl
theorem jf1:(Rows.explainSoundRow.unfollowed==Tryz.prog.unfollowed 6)=true:=by kernel_rfl
theorem jf2:(Rows.explainSoundRow.recurses==Tryz.prog.recurses 6)=true:=by kernel_rfl
theorem jf3:(Rows.explainSoundRow.named==Tryz.prog.varsNamed 6)=true:=by kernel_rfl
theorem jfA:joinedFacts Tryz.prog 6 Tryz.f6 Rows.explainSoundSpec Rows.explainSoundRow=true:=by unfold joinedFacts;rw[jf0,jf1,jf2,jf3];kernel_rfl
theorem sound_holds:Rows.ExplainSoundSaid:=OpenClaim.holds_of_wide 6 Tryz.f6 rfl rfl rfl rfl rfl rfl rfl ⟨rfl,rfl,rfl,rfl,rfl⟩ rfl rfl rfl rfl rfl (by kernel_rfl) Tryz.func6 jfA (of_decide_eq_true (by kernel_rfl)) (by unfold Func.isWrapper;first|(rw[if_pos (by decide+kernel)];kernel_rfl)|(rw[if_neg (by decide+kernel)];exact⟨rfl,rfl⟩)) (fun os started H enc _=>Ko os started H enc)
end Go.Proofs.YtmbihgjlollbeaaGreat
