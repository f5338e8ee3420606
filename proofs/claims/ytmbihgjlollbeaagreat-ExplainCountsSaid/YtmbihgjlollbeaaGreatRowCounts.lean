/- For every input the statement ExplainCounts holds: the call returns true, and the arguments read behind the call as they read before. No condition. -/
import Derived.Test.YtmbihgjlollbeaaGreatOk
import Derived.Test.YtmbihgjlollbeaaGreatShp
import Derived.Test.YtmbihgjlollbeaaGreatEfP2
import Derived.Test.YtmbihgjlollbeaaGreatRows
namespace Go.Proofs.YtmbihgjlollbeaaGreat
open Go.ChangeShapes Go.WideShapes Go.ChangeAt Go.RowKit Go.Ab
theorem agw:ownKnob Tryz.prog.godebug=none:=by kernel_rfl
theorem S3:laidOutB Tryz.prog=true:=by kernel_rfl
theorem adr:tB Tryz.prog 9 51=true:=by kernel_rfl
theorem aih:ax Tryz.prog 51=true:=by kernel_rfl
theorem aab{g:Nat}{M:List PV→Option PV}(hl:Ab.look QS g=some M){W:World}{xs:Array Value}{ps:List PV}(hM:M ps=some (.bool true))(hn:ps.length=xs.size)(hr:∀(i:Nat)p x,ps[i]?=some p→xs[i]?=some x→ai Tryz.prog (kg W) p x):Calls Tryz.prog g xs W fun e W'=>e=.returned (.bool true)∧Below W.heap.size W W':=by have hs:=adm (g,M) (xm hl);refine(hs.2 ps (.bool true) hM W (kg W) xs (fun _ _ h=>h) (fun g cs h=>by cases h) hn hr).mono ?_;rintro e w' ⟨y,rfl,hb,hy⟩;cases hy;exact⟨rfl,hb.toBelow⟩
set_option maxRecDepth 100000 in
theorem GW(os:Os)(started:os.Started)(H:Type)(enc:TypeId×Value→H):ReturnsInHanded {} Tryz.checked os 7 .any (Rows.explainCountsSpec.pre6 enc Tryz.prog Tryz.f7 Rows.explainCountsRow.domain false) (Rows.explainCountsSpec.post enc Tryz.prog Tryz.f7 false true false false):=by
 refine returnsInHanded_of_change (C:=Tryz.checked) agw started (by kernel_rfl) Tryz.func7 (ChangeSpec.witness6 (enc:=enc) (C:=Tryz.checked) false ⟨#[],#[.agg #[.slice none 0 0,.slice none 0 0,.slice none 0 0,.slice none 0 0,.slice none 0 0,.slice none 0 0,.slice none 0 0,.slice none 0 0,.slice none 0 0,.slice none 0 0,.int .i64 0,.int .i64 0,.int .i64 0,.slice none 0 0,.slice none 0 0,.slice none 0 0,.slice none 0 0,.slice none 0 0,.slice none 0 0,.int .i64 0,.int .i64 0,.int .i64 0,.int .i64 0,.int .i64 0,.int .i64 0,.bool false,.int .i64 0,.int .i64 0,.bool false,.bool false,.int .i64 0,.bool false,.slice none 0 0,.int .i64 0,.int .i64 0,.int .i64 0,.int .i64 0,.int .i64 0,.slice none 0 0]],[]⟩ 8 (by kernel_rfl) (by kernel_rfl) (by kernel_rfl) (by kernel_rfl)) ?_;intro W base args ds gs before abi hW ajf _;have agx:∀(j:Nat)t v,Tryz.f7.params[j]?=some t→args[j]?=some v→Value.okWide Tryz.prog W .any base t v:=abi;have hW':=hW;obtain⟨p,q,hA0,hV,rfl,hfz,hnd⟩:=hW;have hA:DataW.TrodAll enc Tryz.prog W 0 (fun _=>true) true Tryz.f7.params.toList args.toList ds p:=hA0;rw[Tryz.params7]at hA agx;obtain⟨v0,vs0,d0,ds0,p0,q0,rJ,rfl,rfl,h0,r0⟩:=trodAll_cons hA;obtain⟨rfl,rfl,rfl⟩:=trodAll_nil r0;obtain rfl:args= #[v0]:=by cases args;simp_all
 obtain⟨rfl,rfl⟩:=trodVars_none hV;have k0:=h0;have lt0:∀x∈p0,x.block<W.heap.size:=by obtain⟨m,hm⟩:=k0;exact DataW.trod_lt m _ _ _ hm
 obtain⟨ps0,PD,hr0⟩:=Zl (d:=8) adr (agx 0 51 v0 rfl rfl) h0;rw[aih]at hr0;obtain⟨cT,cN,cQ,cO,hT0,okT,okN,okQ,okO⟩:=XR PD;rw[hT0]at hr0;clear hA0 abi;refine(aab (g:=7) (M:=gb) (ps:=[Tt.FC cT cN cQ cO]) (by kernel_rfl) (Tt.NQ cT cN cQ cO okT okN okQ okO) rfl (fun i p x hp hx=>?_)).mono fun e W'⟨he,bel⟩=>?_
 ·match i with
  |0=>simp at hp hx;subst hp;subst hx;exact hr0
  |i+1=>simp at hp
 subst he;exact⟨_,rfl,_,_,_,[],_,[],hW',trodAll_mk1 (shut_bool Tryz.underlying4 _),(trodAll_cons_mk (Below.trod S3 (by kernel_rfl) (of_decide_eq_true (by kernel_rfl)) k0 bel lt0) trodAll_mk0),rfl,bel.frame _,fun h=>by cases h⟩
theorem jf0:(Rows.explainCountsRow.inPlace==Tryz.prog.inPlace 7)=true:=by kernel_rfl
theorem jf1:(Rows.explainCountsRow.unfollowed==Tryz.prog.unfollowed 7)=true:=by kernel_rfl
theorem jf2:(Rows.explainCountsRow.recurses==Tryz.prog.recurses 7)=true:=by kernel_rfl
theorem jf3:(Rows.explainCountsRow.named==Tryz.prog.varsNamed 7)=true:=by kernel_rfl
theorem jfA:joinedFacts Tryz.prog 7 Tryz.f7 Rows.explainCountsSpec Rows.explainCountsRow=true:=by unfold joinedFacts;rw[jf0,jf1,jf2,jf3];kernel_rfl
theorem counts_holds:Rows.ExplainCountsSaid:=OpenClaim.holds_of_wide 7 Tryz.f7 rfl rfl rfl rfl rfl rfl rfl ⟨rfl,rfl,rfl,rfl,rfl⟩ rfl rfl rfl rfl rfl (by kernel_rfl) Tryz.func7 jfA (of_decide_eq_true (by kernel_rfl)) (by unfold Func.isWrapper;first|(rw[if_pos (by decide+kernel)];kernel_rfl)|(rw[if_neg (by decide+kernel)];exact⟨rfl,rfl⟩)) (fun os started H enc _=>GW os started H enc)
end Go.Proofs.YtmbihgjlollbeaaGreat
