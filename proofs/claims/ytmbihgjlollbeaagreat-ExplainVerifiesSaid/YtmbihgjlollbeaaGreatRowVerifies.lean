/- For every input the statement ExplainVerifies holds: the call returns true, and the arguments read behind the call as they read before. No condition. -/
import Derived.Test.YtmbihgjlollbeaaGreatOk
import Derived.Test.YtmbihgjlollbeaaGreatShp
import Derived.Test.YtmbihgjlollbeaaGreatEfP2
import Derived.Test.YtmbihgjlollbeaaGreatRows
namespace Go.Proofs.YtmbihgjlollbeaaGreat
open Go.ChangeShapes Go.WideShapes Go.ChangeAt Go.RowKit Go.Ab
theorem apj:ownKnob Tryz.prog.godebug=none:=by kernel_rfl
theorem O6:laidOutB Tryz.prog=true:=by kernel_rfl
theorem amm:wH Tryz.prog 9 51=true:=by kernel_rfl
theorem aqW:aN Tryz.prog 51=true:=by kernel_rfl
theorem amn:wH Tryz.prog 9 54=true:=by kernel_rfl
theorem aqX:aN Tryz.prog 54=false:=by kernel_rfl
theorem ahX{g:Nat}{M:List PV→Option PV}(hl:Ab.look ZB g=some M){W:World}{xs:Array Value}{ps:List PV}(hM:M ps=some (.bool true))(hn:ps.length=xs.size)(hr:∀(i:Nat)p x,ps[i]?=some p→xs[i]?=some x→av Tryz.prog (mc W) p x):Calls Tryz.prog g xs W fun e W'=>e=.returned (.bool true)∧Below W.heap.size W W':=by have hs:=amj (g,M) (C1 hl);refine(hs.2 ps (.bool true) hM W (mc W) xs (fun _ _ h=>h) (fun g cs h=>by cases h) hn hr).mono ?_;rintro e w' ⟨y,rfl,hb,hy⟩;cases hy;exact⟨rfl,hb.toBelow⟩
set_option maxRecDepth 100000 in
theorem Ka(os:Os)(started:os.Started)(H:Type)(enc:TypeId×Value→H):ReturnsInHanded {} Tryz.checked os 4 .any (Rows.explainVerifiesSpec.pre6 enc Tryz.prog Tryz.f4 Rows.explainVerifiesRow.domain false) (Rows.explainVerifiesSpec.post enc Tryz.prog Tryz.f4 false true false false):=by
 refine returnsInHanded_of_change (C:=Tryz.checked) apj started (by kernel_rfl) Tryz.func4 (ChangeSpec.witness6 (enc:=enc) (C:=Tryz.checked) false ⟨#[],#[.agg #[.slice none 0 0,.slice none 0 0,.slice none 0 0,.slice none 0 0,.slice none 0 0,.slice none 0 0,.slice none 0 0,.slice none 0 0,.slice none 0 0,.slice none 0 0,.int .i64 0,.int .i64 0,.int .i64 0,.slice none 0 0,.slice none 0 0,.slice none 0 0,.slice none 0 0,.slice none 0 0,.slice none 0 0,.int .i64 0,.int .i64 0,.int .i64 0,.int .i64 0,.int .i64 0,.int .i64 0,.bool false,.int .i64 0,.int .i64 0,.bool false,.bool false,.int .i64 0,.bool false,.slice none 0 0,.int .i64 0,.int .i64 0,.int .i64 0,.int .i64 0,.int .i64 0,.slice none 0 0],.slice none 0 0],[]⟩ 8 (by kernel_rfl) (by kernel_rfl) (by kernel_rfl) (by kernel_rfl)) ?_;intro W base args ds gs before aiX hW asi _;have amo:∀(j:Nat)t v,Tryz.f4.params[j]?=some t→args[j]?=some v→Value.okWide Tryz.prog W .any base t v:=aiX;have hW':=hW;obtain⟨p,q,hA0,hV,rfl,hfz,hnd⟩:=hW;have hA:DataW.TrodAll enc Tryz.prog W 0 (fun _=>true) true Tryz.f4.params.toList args.toList ds p:=hA0;rw[Tryz.params4]at hA amo;obtain⟨v0,vs0,d0,ds0,p0,q0,wy,rfl,rfl,h0,r0⟩:=trodAll_cons hA;obtain⟨v1,vs1,d1,ds1,p1,q1,rfl,rfl,rfl,h1,r1⟩:=trodAll_cons r0;obtain⟨rfl,rfl,rfl⟩:=trodAll_nil r1;obtain rfl:args= #[v0,v1]:=by cases args;simp_all
 obtain⟨rfl,rfl⟩:=trodVars_none hV;have k0:=h0;have lt0:∀x∈p0,x.block<W.heap.size:=by obtain⟨m,hm⟩:=k0;exact DataW.trod_lt m _ _ _ hm
 obtain⟨ps0,JF,hr0⟩:=WQ (d:=8) amm (amo 0 51 v0 rfl rfl) h0;rw[aqW]at hr0;obtain⟨cT,cN,cQ,cO,hT0,okT,okN,okQ,okO⟩:=af0 JF;rw[hT0]at hr0;have k1:=h1;have lt1:∀x∈p1,x.block<W.heap.size:=by obtain⟨m,hm⟩:=k1;exact DataW.trod_lt m _ _ _ hm
 obtain⟨ps1,ZW,hr1⟩:=WQ (d:=8) amn (amo 1 54 v1 rfl rfl) h1;rw[aqX]at hr1;obtain⟨T1,hT1,aqY⟩:=abu ZW;rw[hT1]at hr1;clear hA0 aiX;refine(ahX (g:=4) (M:=fG) (ps:=[Tt.L5 cT cN cQ cO,.rs 5 (T1.map Tt.Fact.pv)]) (by kernel_rfl) (Tt.PY cT cN cQ cO T1 okT okN okQ okO aqY) rfl (fun i p x hp hx=>?_)).mono fun e W'⟨he,bel⟩=>?_
 ·match i with
  |0=>simp at hp hx;subst hp;subst hx;exact hr0
  |1=>simp at hp hx;subst hp;subst hx;exact hr1
  |i+2=>simp at hp
 subst he;exact⟨_,rfl,_,_,_,[],_,[],hW',trodAll_mk1 (shut_bool Tryz.underlying4 _),(trodAll_cons_mk (Below.trod O6 (by kernel_rfl) (of_decide_eq_true (by kernel_rfl)) k0 bel lt0) (trodAll_cons_mk (Below.trod O6 (by kernel_rfl) (of_decide_eq_true (by kernel_rfl)) k1 bel lt1) trodAll_mk0)),rfl,bel.frame _,fun h=>by cases h⟩
theorem jf0:(Rows.explainVerifiesRow.inPlace==Tryz.prog.inPlace 4)=true:=by kernel_rfl
theorem jf1:(Rows.explainVerifiesRow.unfollowed==Tryz.prog.unfollowed 4)=true:=by kernel_rfl
theorem jf2:(Rows.explainVerifiesRow.recurses==Tryz.prog.recurses 4)=true:=by kernel_rfl
theorem jf3:(Rows.explainVerifiesRow.named==Tryz.prog.varsNamed 4)=true:=by kernel_rfl
theorem jfA:joinedFacts Tryz.prog 4 Tryz.f4 Rows.explainVerifiesSpec Rows.explainVerifiesRow=true:=by unfold joinedFacts;rw[jf0,jf1,jf2,jf3];kernel_rfl
theorem verifies_holds:Rows.ExplainVerifiesSaid:=OpenClaim.holds_of_wide 4 Tryz.f4 rfl rfl rfl rfl rfl rfl rfl ⟨rfl,rfl,rfl,rfl,rfl⟩ rfl rfl rfl rfl rfl (by kernel_rfl) Tryz.func4 jfA (of_decide_eq_true (by kernel_rfl)) (by unfold Func.isWrapper;first|(rw[if_pos (by decide+kernel)];kernel_rfl)|(rw[if_neg (by decide+kernel)];exact⟨rfl,rfl⟩)) (fun os started H enc _=>Ka os started H enc)
end Go.Proofs.YtmbihgjlollbeaaGreat
