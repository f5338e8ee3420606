/- For every input the statement OverlayApplies holds: the call returns true, and the arguments read behind the call as they read before. No condition. -/
import Derived.Test.YtcmhmlnkhmefbaaGreatOk
import Derived.Test.YtcmhmlnkhmefbaaGreatShp
import Derived.Test.YtcmhmlnkhmefbaaGreatOvZ2
import Derived.Test.YtcmhmlnkhmefbaaGreatRows
namespace Go.Proofs.YtcmhmlnkhmefbaaGreat
open Go.ChangeShapes Go.WideShapes Go.ChangeAt Go.RowKit Go.Ab
theorem ac4:ownKnob Tryz.prog.godebug=none:=by kernel_rfl
theorem EV:laidOutB Tryz.prog=true:=by kernel_rfl
theorem ZT:oZ Tryz.prog 8 31=true:=by kernel_rfl
theorem afH:aF Tryz.prog 31=true:=by kernel_rfl
theorem ZU:oZ Tryz.prog 8 34=true:=by kernel_rfl
theorem afI:aF Tryz.prog 34=true:=by kernel_rfl
theorem Wm{g:Nat}{M:List PV→Option PV}(hl:Ab.look Tu g=some M){W:World}{xs:Array Value}{ps:List PV}(hM:M ps=some (.bool true))(hn:ps.length=xs.size)(hr:∀(i:Nat)p x,ps[i]?=some p→xs[i]?=some x→ak Tryz.prog (iR W) p x):Calls Tryz.prog g xs W fun e W'=>e=.returned (.bool true)∧Below W.heap.size W W':=by have hs:=acD (g,M) (ub hl);refine(hs.2 ps (.bool true) hM W (iR W) xs (fun _ _ h=>h) (fun g cs h=>by cases h) hn hr).mono ?_;rintro e w' ⟨y,rfl,hb,hy⟩;cases hy;exact⟨rfl,hb.toBelow⟩
set_option maxRecDepth 100000 in
theorem Db(os:Os)(started:os.Started)(H:Type)(enc:TypeId×Value→H):ReturnsInHanded {} Tryz.checked os 4 .any (Rows.overlayAppliesSpec.pre6 enc Tryz.prog Tryz.f4 Rows.overlayAppliesRow.domain false) (Rows.overlayAppliesSpec.post enc Tryz.prog Tryz.f4 false true false false):=by
 refine returnsInHanded_of_change (C:=Tryz.checked) ac4 started (by kernel_rfl) Tryz.func4 (ChangeSpec.witness6 (enc:=enc) (C:=Tryz.checked) false ⟨#[],#[.agg #[.slice none 0 0,.slice none 0 0,.slice none 0 0,.slice none 0 0,.slice none 0 0,.slice none 0 0,.int .i64 0,.int .i64 0,.int .i64 0],.agg #[.int .i64 0,.int .i64 0,.int .i64 0,.int .i64 0,.int .i64 0,.string ByteArray.empty,.int .i64 0,.int .i64 0,.int .i64 0,.int .i64 0,.int .i64 0,.bool false,.slice none 0 0]],[]⟩ 8 (by kernel_rfl) (by kernel_rfl) (by kernel_rfl) (by kernel_rfl)) ?_;intro W base args ds gs before XF hW ahC _;have ZV:∀(j:Nat)t v,Tryz.f4.params[j]?=some t→args[j]?=some v→Value.okWide Tryz.prog W .any base t v:=XF;have hW':=hW;obtain⟨p,q,hA0,hV,rfl,hfz,QY⟩:=hW;have hA:DataW.TrodAll enc Tryz.prog W 0 (fun _=>true) true Tryz.f4.params.toList args.toList ds p:=hA0;rw[Tryz.params4]at hA ZV;obtain⟨v0,vs0,d0,ds0,p0,q0,jK,rfl,rfl,h0,r0⟩:=trodAll_cons hA;obtain⟨v1,vs1,d1,ds1,p1,q1,rfl,rfl,rfl,h1,r1⟩:=trodAll_cons r0;obtain⟨rfl,rfl,rfl⟩:=trodAll_nil r1;obtain rfl:args= #[v0,v1]:=by cases args;simp_all
 obtain⟨rfl,rfl⟩:=trodVars_none hV;have k0:=h0;have lt0:∀x∈p0,x.block<W.heap.size:=by obtain⟨m,hm⟩:=k0;exact DataW.trod_lt m _ _ _ hm
 obtain⟨ps0,hs0,hr0⟩:=N9 (d:=7) ZT (ZV 0 31 v0 rfl rfl) h0;rw[afH]at hr0;obtain⟨T0,hT0,afJ⟩:=IC hs0;rw[hT0]at hr0;have k1:=h1;have lt1:∀x∈p1,x.block<W.heap.size:=by obtain⟨m,hm⟩:=k1;exact DataW.trod_lt m _ _ _ hm
 obtain⟨Vd,hs1,V3⟩:=N9 (d:=7) ZU (ZV 1 34 v1 rfl rfl) h1;rw[afI]at V3;obtain⟨T1,hT1,afK⟩:=ID hs1;rw[hT1]at V3;clear hA0 XF;refine(Wm (g:=4) (M:=dU) (ps:=[T0.pv,T1.pv]) (by kernel_rfl) (Tt.IB T0 T1 afJ afK) rfl (fun i p x hp hx=>?_)).mono fun e W'⟨he,bel⟩=>?_
 ·match i with
  |0=>simp at hp hx;subst hp;subst hx;exact hr0
  |1=>simp at hp hx;subst hp;subst hx;exact V3
  |i+2=>simp at hp
 subst he;exact⟨_,rfl,_,_,_,[],_,[],hW',trodAll_mk1 (shut_bool Tryz.underlying4 _),(trodAll_cons_mk (Below.trod EV (by kernel_rfl) (of_decide_eq_true (by kernel_rfl)) k0 bel lt0) (trodAll_cons_mk (Below.trod EV (by kernel_rfl) (of_decide_eq_true (by kernel_rfl)) k1 bel lt1) trodAll_mk0)),rfl,bel.frame _,fun h=>by cases h⟩
theorem applies_holds:Rows.OverlayAppliesSaid:=OpenClaim.holds_of_wide 4 Tryz.f4 rfl rfl rfl rfl rfl rfl rfl ⟨rfl,rfl,rfl,rfl,rfl⟩ rfl rfl rfl rfl rfl (by kernel_rfl) Tryz.func4 (by kernel_rfl) (of_decide_eq_true (by kernel_rfl)) (by unfold Func.isWrapper;first|(rw[if_pos (by decide+kernel)];kernel_rfl)|(rw[if_neg (by decide+kernel)];exact⟨rfl,rfl⟩)) (fun os started H enc _=>Db os started H enc)
end Go.Proofs.YtcmhmlnkhmefbaaGreat
