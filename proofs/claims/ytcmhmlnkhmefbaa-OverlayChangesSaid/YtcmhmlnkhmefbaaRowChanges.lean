/- For every input the statement OverlayChanges holds: the call returns true, and the arguments read behind the call as they read before. No condition. -/
import Derived.Test.YtcmhmlnkhmefbaaOk
import Derived.Test.YtcmhmlnkhmefbaaShp
import Derived.Test.YtcmhmlnkhmefbaaOvZ2
import Derived.Test.YtcmhmlnkhmefbaaRows
namespace Go.Proofs.Ytcmhmlnkhmefbaa
open Go.ChangeShapes Go.WideShapes Go.ChangeAt Go.RowKit Go.Ab
theorem Yu:ownKnob Try.prog.godebug=none:=by kernel_rfl
theorem B5:laidOutB Try.prog=true:=by kernel_rfl
theorem JZ:og Try.prog 8 31=true:=by kernel_rfl
theorem Sk:aq Try.prog 31=true:=by kernel_rfl
theorem Q2{g:Nat}{M:List PV→Option PV}(hl:Ab.look OA g=some M){W:World}{xs:Array Value}{ps:List PV}(hM:M ps=some (.bool true))(hn:ps.length=xs.size)(hr:∀(i:Nat)p x,ps[i]?=some p→xs[i]?=some x→af Try.prog (gR W) p x):Calls Try.prog g xs W fun e W'=>e=.returned (.bool true)∧Below W.heap.size W W':=by have hs:=XW (g,M) (q9 hl);refine(hs.2 ps (.bool true) hM W (gR W) xs (fun _ _ h=>h) (fun g cs h=>by cases h) hn hr).mono ?_;rintro e w' ⟨y,rfl,hb,hy⟩;cases hy;exact⟨rfl,hb.toBelow⟩
set_option maxRecDepth 100000 in
theorem Aj(os:Os)(started:os.Started)(H:Type)(enc:TypeId×Value→H):ReturnsInHanded {} Try.checked os 3 .any (Rows.overlayChangesSpec.pre6 enc Try.prog Try.f3 Rows.overlayChangesRow.domain false) (Rows.overlayChangesSpec.post enc Try.prog Try.f3 false true false false):=by
 refine returnsInHanded_of_change (C:=Try.checked) Yu started (by kernel_rfl) Try.func3 (ChangeSpec.witness6 (enc:=enc) (C:=Try.checked) false ⟨#[],#[.agg #[.slice none 0 0,.slice none 0 0,.slice none 0 0,.slice none 0 0,.slice none 0 0,.slice none 0 0,.int .i64 0,.int .i64 0,.int .i64 0],.agg #[.slice none 0 0,.slice none 0 0,.slice none 0 0,.slice none 0 0,.slice none 0 0,.slice none 0 0,.int .i64 0,.int .i64 0,.int .i64 0]],[]⟩ 8 (by kernel_rfl) (by kernel_rfl) (by kernel_rfl) (by kernel_rfl)) ?_;intro W base args ds gs before Sl hW acR _;have Uh:∀(j:Nat)t v,Try.f3.params[j]?=some t→args[j]?=some v→Value.okWide Try.prog W .any base t v:=Sl;have hW':=hW;obtain⟨p,q,hA0,hV,rfl,hfz,PA⟩:=hW;have hA:DataW.TrodAll enc Try.prog W 0 (fun _=>true) true Try.f3.params.toList args.toList ds p:=hA0;rw[Try.params3]at hA Uh;obtain⟨v0,vs0,d0,ds0,p0,q0,iO,rfl,rfl,h0,r0⟩:=trodAll_cons hA;obtain⟨v1,vs1,d1,ds1,p1,q1,rfl,rfl,rfl,h1,r1⟩:=trodAll_cons r0;obtain⟨rfl,rfl,rfl⟩:=trodAll_nil r1;obtain rfl:args= #[v0,v1]:=by cases args;simp_all
 obtain⟨rfl,rfl⟩:=trodVars_none hV;have k0:=h0;have lt0:∀x∈p0,x.block<W.heap.size:=by obtain⟨m,hm⟩:=k0;exact DataW.trod_lt m _ _ _ hm
 obtain⟨ps0,hs0,UF⟩:=Jr (d:=7) JZ (Uh 0 31 v0 rfl rfl) h0;rw[Sk]at UF;obtain⟨T0,hT0,abj⟩:=xo hs0;rw[hT0]at UF;have k1:=h1;have lt1:∀x∈p1,x.block<W.heap.size:=by obtain⟨m,hm⟩:=k1;exact DataW.trod_lt m _ _ _ hm
 obtain⟨P2,hs1,W4⟩:=Jr (d:=7) JZ (Uh 1 31 v1 rfl rfl) h1;rw[Sk]at W4;obtain⟨T1,hT1,abk⟩:=xo hs1;rw[hT1]at W4;clear hA0 Sl;refine(Q2 (g:=3) (M:=dK) (ps:=[T0.pv,T1.pv]) (by kernel_rfl) (Tt.E8 T0 T1 abj abk) rfl (fun i p x hp hx=>?_)).mono fun e W'⟨he,bel⟩=>?_
 ·match i with
  |0=>simp at hp hx;subst hp;subst hx;exact UF
  |1=>simp at hp hx;subst hp;subst hx;exact W4
  |i+2=>simp at hp
 subst he;exact⟨_,rfl,_,_,_,[],_,[],hW',trodAll_mk1 (shut_bool Try.underlying4 _),(trodAll_cons_mk (Below.trod B5 (by kernel_rfl) (of_decide_eq_true (by kernel_rfl)) k0 bel lt0) (trodAll_cons_mk (Below.trod B5 (by kernel_rfl) (of_decide_eq_true (by kernel_rfl)) k1 bel lt1) trodAll_mk0)),rfl,bel.frame _,fun h=>by cases h⟩
theorem changes_holds:Rows.OverlayChangesSaid:=OpenClaim.holds_of_wide 3 Try.f3 rfl rfl rfl rfl rfl rfl rfl ⟨rfl,rfl,rfl,rfl,rfl⟩ rfl rfl rfl rfl rfl (by kernel_rfl) Try.func3 (by kernel_rfl) (of_decide_eq_true (by kernel_rfl)) (by unfold Func.isWrapper;first|(rw[if_pos (by decide+kernel)];kernel_rfl)|(rw[if_neg (by decide+kernel)];exact⟨rfl,rfl⟩)) (fun os started H enc _=>Aj os started H enc)
end Go.Proofs.Ytcmhmlnkhmefbaa
