/- For every input the statement ExplainTexts holds: the call returns true, and the arguments read behind the call as they read before. No condition. -/
import Derived.Test.YtmbihgjlollbeaaGreatOk
import Derived.Test.YtmbihgjlollbeaaGreatShp
import Derived.Test.YtmbihgjlollbeaaGreatEkP1
import Derived.Test.YtmbihgjlollbeaaGreatRows
namespace Go.Proofs.YtmbihgjlollbeaaGreat
open Go.ChangeShapes Go.WideShapes Go.ChangeAt Go.RowKit Go.Ab
theorem aff:ownKnob Tryz.prog.godebug=none:=by kernel_rfl
theorem GP:laidOutB Tryz.prog=true:=by kernel_rfl
theorem abV:qm Tryz.prog 9 51=true:=by kernel_rfl
theorem ahj:ax Tryz.prog 51=true:=by kernel_rfl
theorem abW:qm Tryz.prog 9 63=true:=by kernel_rfl
theorem ahk:ax Tryz.prog 63=true:=by kernel_rfl
theorem Yo{g:Nat}{M:List PV→Option PV}(hl:Ab.look Rx g=some M){W:World}{xs:Array Value}{ps:List PV}(hM:M ps=some (.bool true))(hn:ps.length=xs.size)(hr:∀(i:Nat)p x,ps[i]?=some p→xs[i]?=some x→ah Tryz.prog (jf W) p x):Calls Tryz.prog g xs W fun e W'=>e=.returned (.bool true)∧Below W.heap.size W W':=by have hs:=abU (g,M) (vP hl);refine(hs.2 ps (.bool true) hM W (jf W) xs (fun _ _ h=>h) (fun g cs h=>by cases h) hn hr).mono ?_;rintro e w' ⟨y,rfl,hb,hy⟩;cases hy;exact⟨rfl,hb.toBelow⟩
set_option maxRecDepth 100000 in
theorem IL(os:Os)(started:os.Started)(H:Type)(enc:TypeId×Value→H):ReturnsInHanded {} Tryz.checked os 5 .any (Rows.explainTextsSpec.pre6 enc Tryz.prog Tryz.f5 Rows.explainTextsRow.domain false) (Rows.explainTextsSpec.post enc Tryz.prog Tryz.f5 false true false false):=by
 refine returnsInHanded_of_change (C:=Tryz.checked) aff started (by kernel_rfl) Tryz.func5 (ChangeSpec.witness6 (enc:=enc) (C:=Tryz.checked) false ⟨#[],#[.agg #[.slice none 0 0,.slice none 0 0,.slice none 0 0,.slice none 0 0,.slice none 0 0,.slice none 0 0,.slice none 0 0,.slice none 0 0,.slice none 0 0,.slice none 0 0,.int .i64 0,.int .i64 0,.int .i64 0,.slice none 0 0,.slice none 0 0,.slice none 0 0,.slice none 0 0,.slice none 0 0,.slice none 0 0,.int .i64 0,.int .i64 0,.int .i64 0,.int .i64 0,.int .i64 0,.int .i64 0,.bool false,.int .i64 0,.int .i64 0,.bool false,.bool false,.int .i64 0,.bool false,.slice none 0 0,.int .i64 0,.int .i64 0,.int .i64 0,.int .i64 0,.int .i64 0,.slice none 0 0],.agg #[.int .i64 0,.int .i64 0,.int .i64 0,.int .i64 0,.int .i64 0]],[]⟩ 8 (by kernel_rfl) (by kernel_rfl) (by kernel_rfl) (by kernel_rfl)) ?_;intro W base args ds gs before ZG hW aiA _;have abX:∀(j:Nat)t v,Tryz.f5.params[j]?=some t→args[j]?=some v→Value.okWide Tryz.prog W .any base t v:=ZG;have hW':=hW;obtain⟨p,q,hA0,hV,rfl,hfz,hnd⟩:=hW;have hA:DataW.TrodAll enc Tryz.prog W 0 (fun _=>true) true Tryz.f5.params.toList args.toList ds p:=hA0;rw[Tryz.params5]at hA abX;obtain⟨v0,vs0,d0,ds0,p0,q0,qd,rfl,rfl,h0,r0⟩:=trodAll_cons hA;obtain⟨v1,vs1,d1,ds1,p1,q1,rfl,rfl,rfl,h1,r1⟩:=trodAll_cons r0;obtain⟨rfl,rfl,rfl⟩:=trodAll_nil r1;obtain rfl:args= #[v0,v1]:=by cases args;simp_all
 obtain⟨rfl,rfl⟩:=trodVars_none hV;have k0:=h0;have lt0:∀x∈p0,x.block<W.heap.size:=by obtain⟨m,hm⟩:=k0;exact DataW.trod_lt m _ _ _ hm
 obtain⟨ps0,hs0,hr0⟩:=QW (d:=8) abV (abX 0 51 v0 rfl rfl) h0;rw[ahj]at hr0;obtain⟨cT,cN,cQ,cO,hT0,okT,okN,okQ,okO⟩:=Wa hs0;rw[hT0]at hr0;have k1:=h1;have lt1:∀x∈p1,x.block<W.heap.size:=by obtain⟨m,hm⟩:=k1;exact DataW.trod_lt m _ _ _ hm
 obtain⟨Y2,hs1,hr1⟩:=QW (d:=8) abW (abX 1 63 v1 rfl rfl) h1;rw[ahk]at hr1;obtain⟨T1,hT1,ahl⟩:=Wb hs1;rw[hT1]at hr1;clear hA0 ZG;refine(Yo (g:=5) (M:=dz) (ps:=[Tt.A3 cT cN cQ cO,T1.pv]) (by kernel_rfl) (Tt.SJ cT cN cQ cO T1 okT okN okQ okO ahl) rfl (fun i p x hp hx=>?_)).mono fun e W'⟨he,bel⟩=>?_
 ·match i with
  |0=>simp at hp hx;subst hp;subst hx;exact hr0
  |1=>simp at hp hx;subst hp;subst hx;exact hr1
  |i+2=>simp at hp
 subst he;exact⟨_,rfl,_,_,_,[],_,[],hW',trodAll_mk1 (shut_bool Tryz.underlying4 _),(trodAll_cons_mk (Below.trod GP (by kernel_rfl) (of_decide_eq_true (by kernel_rfl)) k0 bel lt0) (trodAll_cons_mk (Below.trod GP (by kernel_rfl) (of_decide_eq_true (by kernel_rfl)) k1 bel lt1) trodAll_mk0)),rfl,bel.frame _,fun h=>by cases h⟩
theorem jf0:(Rows.explainTextsRow.inPlace==Tryz.prog.inPlace 5)=true:=by kernel_rfl
theorem jf1:(Rows.explainTextsRow.unfollowed==Tryz.prog.unfollowed 5)=true:=by kernel_rfl
theorem jf2:(Rows.explainTextsRow.recurses==Tryz.prog.recurses 5)=true:=by kernel_rfl
theorem jf3:(Rows.explainTextsRow.named==Tryz.prog.varsNamed 5)=true:=by kernel_rfl
theorem jfA:joinedFacts Tryz.prog 5 Tryz.f5 Rows.explainTextsSpec Rows.explainTextsRow=true:=by unfold joinedFacts;rw[jf0,jf1,jf2,jf3];kernel_rfl
theorem texts_holds:Rows.ExplainTextsSaid:=OpenClaim.holds_of_wide 5 Tryz.f5 rfl rfl rfl rfl rfl rfl rfl ⟨rfl,rfl,rfl,rfl,rfl⟩ rfl rfl rfl rfl rfl (by kernel_rfl) Tryz.func5 jfA (of_decide_eq_true (by kernel_rfl)) (by unfold Func.isWrapper;first|(rw[if_pos (by decide+kernel)];kernel_rfl)|(rw[if_neg (by decide+kernel)];exact⟨rfl,rfl⟩)) (fun os started H enc _=>IL os started H enc)
end Go.Proofs.YtmbihgjlollbeaaGreat
