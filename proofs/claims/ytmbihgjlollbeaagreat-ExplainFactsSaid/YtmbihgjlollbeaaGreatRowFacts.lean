/- For every input the statement ExplainFacts holds: the call returns true, and the arguments read behind the call as they read before. No condition. -/
import Derived.Test.YtmbihgjlollbeaaGreatOk
import Derived.Test.YtmbihgjlollbeaaGreatShp
import Derived.Test.YtmbihgjlollbeaaGreatEfP2
import Derived.Test.YtmbihgjlollbeaaGreatRows
namespace Go.Proofs.YtmbihgjlollbeaaGreat
open Go.ChangeShapes Go.WideShapes Go.ChangeAt Go.RowKit Go.Ab
theorem ao9:ownKnob Tryz.prog.godebug=none:=by kernel_rfl
theorem abm:laidOutB Tryz.prog=true:=by kernel_rfl
theorem ame:zj Tryz.prog 9 51=true:=by kernel_rfl
theorem aqP:aN Tryz.prog 51=true:=by kernel_rfl
theorem ahH{g:Nat}{M:List PV→Option PV}(hl:Ab.look Zr g=some M){W:World}{xs:Array Value}{ps:List PV}(hM:M ps=some (.bool true))(hn:ps.length=xs.size)(hr:∀(i:Nat)p x,ps[i]?=some p→xs[i]?=some x→av Tryz.prog (mb W) p x):Calls Tryz.prog g xs W fun e W'=>e=.returned (.bool true)∧Below W.heap.size W W':=by have hs:=amb (g,M) (CW hl);refine(hs.2 ps (.bool true) hM W (mb W) xs (fun _ _ h=>h) (fun g cs h=>by cases h) hn hr).mono ?_;rintro e w' ⟨y,rfl,hb,hy⟩;cases hy;exact⟨rfl,hb.toBelow⟩
set_option maxRecDepth 100000 in
theorem Qs(os:Os)(started:os.Started)(H:Type)(enc:TypeId×Value→H):ReturnsInHanded {} Tryz.checked os 3 .any (Rows.explainFactsSpec.pre6 enc Tryz.prog Tryz.f3 Rows.explainFactsRow.domain false) (Rows.explainFactsSpec.post enc Tryz.prog Tryz.f3 false true false false):=by
 refine returnsInHanded_of_change (C:=Tryz.checked) ao9 started (by kernel_rfl) Tryz.func3 (ChangeSpec.witness6 (enc:=enc) (C:=Tryz.checked) false ⟨#[],#[.agg #[.slice none 0 0,.slice none 0 0,.slice none 0 0,.slice none 0 0,.slice none 0 0,.slice none 0 0,.slice none 0 0,.slice none 0 0,.slice none 0 0,.slice none 0 0,.int .i64 0,.int .i64 0,.int .i64 0,.slice none 0 0,.slice none 0 0,.slice none 0 0,.slice none 0 0,.slice none 0 0,.slice none 0 0,.int .i64 0,.int .i64 0,.int .i64 0,.int .i64 0,.int .i64 0,.int .i64 0,.bool false,.int .i64 0,.int .i64 0,.bool false,.bool false,.int .i64 0,.bool false,.slice none 0 0,.int .i64 0,.int .i64 0,.int .i64 0,.int .i64 0,.int .i64 0,.slice none 0 0]],[]⟩ 8 (by kernel_rfl) (by kernel_rfl) (by kernel_rfl) (by kernel_rfl)) ?_;intro W base args ds gs before aiI hW ar9 _;have apa:∀(j:Nat)t v,Tryz.f3.params[j]?=some t→args[j]?=some v→Value.okWide Tryz.prog W .any base t v:=aiI;have hW':=hW;obtain⟨p,q,hA0,hV,rfl,hfz,hnd⟩:=hW;have hA:DataW.TrodAll enc Tryz.prog W 0 (fun _=>true) true Tryz.f3.params.toList args.toList ds p:=hA0;rw[Tryz.params3]at hA apa;obtain⟨v0,vs0,d0,ds0,p0,q0,wo,rfl,rfl,h0,r0⟩:=trodAll_cons hA;obtain⟨rfl,rfl,rfl⟩:=trodAll_nil r0;obtain rfl:args= #[v0]:=by cases args;simp_all
 obtain⟨rfl,rfl⟩:=trodVars_none hV;have k0:=h0;have lt0:∀x∈p0,x.block<W.heap.size:=by obtain⟨m,hm⟩:=k0;exact DataW.trod_lt m _ _ _ hm
 obtain⟨ps0,Jx,hr0⟩:=agW (d:=8) ame (apa 0 51 v0 rfl rfl) h0;rw[aqP]at hr0;obtain⟨cT,cN,cQ,cO,hT0,okT,okN,okQ,okO⟩:=afL Jx;rw[hT0]at hr0;clear hA0 aiI;refine(ahH (g:=3) (M:=iq) (ps:=[Tt.LY cT cN cQ cO]) (by kernel_rfl) (Tt.aaE cT cN cQ cO okT okN okQ okO) rfl (fun i p x hp hx=>?_)).mono fun e W'⟨he,bel⟩=>?_
 ·match i with
  |0=>simp at hp hx;subst hp;subst hx;exact hr0
  |i+1=>simp at hp
 subst he;exact⟨_,rfl,_,_,_,[],_,[],hW',trodAll_mk1 (shut_bool Tryz.underlying4 _),(trodAll_cons_mk (Below.trod abm (by kernel_rfl) (of_decide_eq_true (by kernel_rfl)) k0 bel lt0) trodAll_mk0),rfl,bel.frame _,fun h=>by cases h⟩
theorem jf0:(Rows.explainFactsRow.inPlace==Tryz.prog.inPlace 3)=true:=by kernel_rfl
theorem jf1:(Rows.explainFactsRow.unfollowed==Tryz.prog.unfollowed 3)=true:=by kernel_rfl
theorem jf2:(Rows.explainFactsRow.recurses==Tryz.prog.recurses 3)=true:=by kernel_rfl
theorem jf3:(Rows.explainFactsRow.named==Tryz.prog.varsNamed 3)=true:=by kernel_rfl
theorem jfA:joinedFacts Tryz.prog 3 Tryz.f3 Rows.explainFactsSpec Rows.explainFactsRow=true:=by unfold joinedFacts;rw[jf0,jf1,jf2,jf3];kernel_rfl
theorem facts_holds:Rows.ExplainFactsSaid:=OpenClaim.holds_of_wide 3 Tryz.f3 rfl rfl rfl rfl rfl rfl rfl ⟨rfl,rfl,rfl,rfl,rfl⟩ rfl rfl rfl rfl rfl (by kernel_rfl) Tryz.func3 jfA (of_decide_eq_true (by kernel_rfl)) (by unfold Func.isWrapper;first|(rw[if_pos (by decide+kernel)];kernel_rfl)|(rw[if_neg (by decide+kernel)];exact⟨rfl,rfl⟩)) (fun os started H enc _=>Qs os started H enc)
end Go.Proofs.YtmbihgjlollbeaaGreat
