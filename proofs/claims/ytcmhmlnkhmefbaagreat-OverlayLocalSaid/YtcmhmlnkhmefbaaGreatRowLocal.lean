/- For every input the statement OverlayLocal holds: the call returns true, and the arguments read behind the call as they read before. No condition. -/
import Derived.Test.YtcmhmlnkhmefbaaGreatOk
import Derived.Test.YtcmhmlnkhmefbaaGreatShp
import Derived.Test.YtcmhmlnkhmefbaaGreatOvZ2
import Derived.Test.YtcmhmlnkhmefbaaGreatRows
namespace Go.Proofs.YtcmhmlnkhmefbaaGreat
open Go.ChangeShapes Go.WideShapes Go.ChangeAt Go.RowKit Go.Ab
theorem acu:ownKnob Tryz.prog.godebug=none:=by kernel_rfl
theorem Eh:laidOutB Tryz.prog=true:=by kernel_rfl
theorem Ys:oN Tryz.prog 8 31=true:=by kernel_rfl
theorem aeW:aF Tryz.prog 31=true:=by kernel_rfl
theorem Yt:oN Tryz.prog 8 34=true:=by kernel_rfl
theorem aeX:aF Tryz.prog 34=true:=by kernel_rfl
theorem U7{g:Nat}{M:List PV→Option PV}(hl:Ab.look Sq g=some M){W:World}{xs:Array Value}{ps:List PV}(hM:M ps=some (.bool true))(hn:ps.length=xs.size)(hr:∀(i:Nat)p x,ps[i]?=some p→xs[i]?=some x→ak Tryz.prog (iQ W) p x):Calls Tryz.prog g xs W fun e W'=>e=.returned (.bool true)∧Below W.heap.size W W':=by have hs:=abZ (g,M) (tM hl);refine(hs.2 ps (.bool true) hM W (iQ W) xs (fun _ _ h=>h) (fun g cs h=>by cases h) hn hr).mono ?_;rintro e w' ⟨y,rfl,hb,hy⟩;cases hy;exact⟨rfl,hb.toBelow⟩
set_option maxRecDepth 100000 in
theorem FI(os:Os)(started:os.Started)(H:Type)(enc:TypeId×Value→H):ReturnsInHanded {} Tryz.checked os 7 .any (Rows.overlayLocalSpec.pre6 enc Tryz.prog Tryz.f7 Rows.overlayLocalRow.domain false) (Rows.overlayLocalSpec.post enc Tryz.prog Tryz.f7 false true false false):=by
 refine returnsInHanded_of_change (C:=Tryz.checked) acu started (by kernel_rfl) Tryz.func7 (ChangeSpec.witness6 (enc:=enc) (C:=Tryz.checked) false ⟨#[],#[.agg #[.slice none 0 0,.slice none 0 0,.slice none 0 0,.slice none 0 0,.slice none 0 0,.slice none 0 0,.int .i64 0,.int .i64 0,.int .i64 0],.agg #[.int .i64 0,.int .i64 0,.int .i64 0,.int .i64 0,.int .i64 0,.string ByteArray.empty,.int .i64 0,.int .i64 0,.int .i64 0,.int .i64 0,.int .i64 0,.bool false,.slice none 0 0]],[]⟩ 8 (by kernel_rfl) (by kernel_rfl) (by kernel_rfl) (by kernel_rfl)) ?_;intro W base args ds gs before Wi hW agB _;have Yu:∀(j:Nat)t v,Tryz.f7.params[j]?=some t→args[j]?=some v→Value.okWide Tryz.prog W .any base t v:=Wi;have hW':=hW;obtain⟨p,q,hA0,hV,rfl,hfz,Tq⟩:=hW;have hA:DataW.TrodAll enc Tryz.prog W 0 (fun _=>true) true Tryz.f7.params.toList args.toList ds p:=hA0;rw[Tryz.params7]at hA Yu;obtain⟨v0,vs0,d0,ds0,p0,q0,jF,rfl,rfl,h0,r0⟩:=trodAll_cons hA;obtain⟨v1,vs1,d1,ds1,p1,q1,rfl,rfl,rfl,h1,r1⟩:=trodAll_cons r0;obtain⟨rfl,rfl,rfl⟩:=trodAll_nil r1;obtain rfl:args= #[v0,v1]:=by cases args;simp_all
 obtain⟨rfl,rfl⟩:=trodVars_none hV;have k0:=h0;have lt0:∀x∈p0,x.block<W.heap.size:=by obtain⟨m,hm⟩:=k0;exact DataW.trod_lt m _ _ _ hm
 obtain⟨ps0,hs0,Y1⟩:=MS (d:=7) Ys (Yu 0 31 v0 rfl rfl) h0;rw[aeW]at Y1;obtain⟨T0,hT0,aeY⟩:=HU hs0;rw[hT0]at Y1;have k1:=h1;have lt1:∀x∈p1,x.block<W.heap.size:=by obtain⟨m,hm⟩:=k1;exact DataW.trod_lt m _ _ _ hm
 obtain⟨TZ,hs1,X9⟩:=MS (d:=7) Yt (Yu 1 34 v1 rfl rfl) h1;rw[aeX]at X9;obtain⟨T1,hT1,aeZ⟩:=HV hs1;rw[hT1]at X9;clear hA0 Wi;refine(U7 (g:=7) (M:=eQ) (ps:=[T0.pv,T1.pv]) (by kernel_rfl) (Tt.PA T0 T1 aeY aeZ) rfl (fun i p x hp hx=>?_)).mono fun e W'⟨he,bel⟩=>?_
 ·match i with
  |0=>simp at hp hx;subst hp;subst hx;exact Y1
  |1=>simp at hp hx;subst hp;subst hx;exact X9
  |i+2=>simp at hp
 subst he;exact⟨_,rfl,_,_,_,[],_,[],hW',trodAll_mk1 (shut_bool Tryz.underlying4 _),(trodAll_cons_mk (Below.trod Eh (by kernel_rfl) (of_decide_eq_true (by kernel_rfl)) k0 bel lt0) (trodAll_cons_mk (Below.trod Eh (by kernel_rfl) (of_decide_eq_true (by kernel_rfl)) k1 bel lt1) trodAll_mk0)),rfl,bel.frame _,fun h=>by cases h⟩
theorem local_holds:Rows.OverlayLocalSaid:=OpenClaim.holds_of_wide 7 Tryz.f7 rfl rfl rfl rfl rfl rfl rfl ⟨rfl,rfl,rfl,rfl,rfl⟩ rfl rfl rfl rfl rfl (by kernel_rfl) Tryz.func7 (by kernel_rfl) (of_decide_eq_true (by kernel_rfl)) (by unfold Func.isWrapper;first|(rw[if_pos (by decide+kernel)];kernel_rfl)|(rw[if_neg (by decide+kernel)];exact⟨rfl,rfl⟩)) (fun os started H enc _=>FI os started H enc)
end Go.Proofs.YtcmhmlnkhmefbaaGreat
