/- For every input the statement OverlayAll holds: the call returns true, and the arguments read behind the call as they read before. No condition. -/
import Derived.Test.YtcmhmlnkhmefbaaGreatOk
import Derived.Test.YtcmhmlnkhmefbaaGreatShp
import Derived.Test.YtcmhmlnkhmefbaaGreatOvZ2
import Derived.Test.YtcmhmlnkhmefbaaGreatRows
namespace Go.Proofs.YtcmhmlnkhmefbaaGreat
open Go.ChangeShapes Go.WideShapes Go.ChangeAt Go.RowKit Go.Ab
theorem adf:ownKnob Tryz.prog.godebug=none:=by kernel_rfl
theorem E6:laidOutB Tryz.prog=true:=by kernel_rfl
theorem aab:py Tryz.prog 8 48=true:=by kernel_rfl
theorem afR:aF Tryz.prog 48=false:=by kernel_rfl
theorem aac:py Tryz.prog 8 31=true:=by kernel_rfl
theorem afS:aF Tryz.prog 31=true:=by kernel_rfl
theorem WM{g:Nat}{M:List PV→Option PV}(hl:Ab.look TO g=some M){W:World}{xs:Array Value}{ps:List PV}(hM:M ps=some (.bool true))(hn:ps.length=xs.size)(hr:∀(i:Nat)p x,ps[i]?=some p→xs[i]?=some x→al Tryz.prog (iS W) p x):Calls Tryz.prog g xs W fun e W'=>e=.returned (.bool true)∧Below W.heap.size W W':=by have hs:=acN (g,M) (ud hl);refine(hs.2 ps (.bool true) hM W (iS W) xs (fun _ _ h=>h) (fun g cs h=>by cases h) hn hr).mono ?_;rintro e w' ⟨y,rfl,hb,hy⟩;cases hy;exact⟨rfl,hb.toBelow⟩
set_option maxRecDepth 100000 in
theorem MB(os:Os)(started:os.Started)(H:Type)(enc:TypeId×Value→H):ReturnsInHanded {} Tryz.checked os 6 .any (Rows.overlayAllSpec.pre6 enc Tryz.prog Tryz.f6 Rows.overlayAllRow.domain false) (Rows.overlayAllSpec.post enc Tryz.prog Tryz.f6 false true false false):=by
 refine returnsInHanded_of_change (C:=Tryz.checked) adf started (by kernel_rfl) Tryz.func6 (ChangeSpec.witness6 (enc:=enc) (C:=Tryz.checked) false ⟨#[],#[.agg #[.slice none 0 0,.slice none 0 0,.slice none 0 0,.slice none 0 0,.slice none 0 0,.slice none 0 0,.int .i64 0,.int .i64 0,.int .i64 0],.slice none 0 0],[]⟩ 8 (by kernel_rfl) (by kernel_rfl) (by kernel_rfl) (by kernel_rfl)) ?_;intro W base args ds gs before XW hW ahM _;have aad:∀(j:Nat)t v,Tryz.f6.params[j]?=some t→args[j]?=some v→Value.okWide Tryz.prog W .any base t v:=XW;have hW':=hW;obtain⟨p,q,hA0,hV,rfl,hfz,Rk⟩:=hW;have hA:DataW.TrodAll enc Tryz.prog W 0 (fun _=>true) true Tryz.f6.params.toList args.toList ds p:=hA0;rw[Tryz.params6]at hA aad;obtain⟨v0,vs0,d0,ds0,p0,q0,jL,rfl,rfl,h0,r0⟩:=trodAll_cons hA;obtain⟨v1,vs1,d1,ds1,p1,q1,rfl,rfl,rfl,h1,r1⟩:=trodAll_cons r0;obtain⟨rfl,rfl,rfl⟩:=trodAll_nil r1;obtain rfl:args= #[v0,v1]:=by cases args;simp_all
 obtain⟨rfl,rfl⟩:=trodVars_none hV;have k0:=h0;have lt0:∀x∈p0,x.block<W.heap.size:=by obtain⟨m,hm⟩:=k0;exact DataW.trod_lt m _ _ _ hm
 obtain⟨ps0,hs0,hr0⟩:=Ov (d:=7) aac (aad 0 31 v0 rfl rfl) h0;rw[afS]at hr0;obtain⟨T0,hT0,afT⟩:=IV hs0;rw[hT0]at hr0;have k1:=h1;have lt1:∀x∈p1,x.block<W.heap.size:=by obtain⟨m,hm⟩:=k1;exact DataW.trod_lt m _ _ _ hm
 obtain⟨VA,hs1,Wq⟩:=Ov (d:=7) aab (aad 1 48 v1 rfl rfl) h1;rw[afR]at Wq;obtain⟨T1,hT1,afU⟩:=Uq hs1;rw[hT1]at Wq;clear hA0 XW;refine(WM (g:=6) (M:=fD) (ps:=[T0.pv,.rs 13 (T1.map Tt.eZ.pv)]) (by kernel_rfl) (Tt.WL T0 T1 afT afU) rfl (fun i p x hp hx=>?_)).mono fun e W'⟨he,bel⟩=>?_
 ·match i with
  |0=>simp at hp hx;subst hp;subst hx;exact hr0
  |1=>simp at hp hx;subst hp;subst hx;exact Wq
  |i+2=>simp at hp
 subst he;exact⟨_,rfl,_,_,_,[],_,[],hW',trodAll_mk1 (shut_bool Tryz.underlying4 _),(trodAll_cons_mk (Below.trod E6 (by kernel_rfl) (of_decide_eq_true (by kernel_rfl)) k0 bel lt0) (trodAll_cons_mk (Below.trod E6 (by kernel_rfl) (of_decide_eq_true (by kernel_rfl)) k1 bel lt1) trodAll_mk0)),rfl,bel.frame _,fun h=>by cases h⟩
theorem all_holds:Rows.OverlayAllSaid:=OpenClaim.holds_of_wide 6 Tryz.f6 rfl rfl rfl rfl rfl rfl rfl ⟨rfl,rfl,rfl,rfl,rfl⟩ rfl rfl rfl rfl rfl (by kernel_rfl) Tryz.func6 (by kernel_rfl) (of_decide_eq_true (by kernel_rfl)) (by unfold Func.isWrapper;first|(rw[if_pos (by decide+kernel)];kernel_rfl)|(rw[if_neg (by decide+kernel)];exact⟨rfl,rfl⟩)) (fun os started H enc _=>MB os started H enc)
end Go.Proofs.YtcmhmlnkhmefbaaGreat
