/- For every input the statement OverlayCommutes holds: the call returns true, and the arguments read behind the call as they read before. No condition. -/
import Derived.Test.YtcmhmlnkhmefbaaGreatOk
import Derived.Test.YtcmhmlnkhmefbaaGreatShp
import Derived.Test.YtcmhmlnkhmefbaaGreatOvZ2
import Derived.Test.YtcmhmlnkhmefbaaGreatRows
namespace Go.Proofs.YtcmhmlnkhmefbaaGreat
open Go.ChangeShapes Go.WideShapes Go.ChangeAt Go.RowKit Go.Ab
theorem acx:ownKnob Tryz.prog.godebug=none:=by kernel_rfl
theorem yT:laidOutB Tryz.prog=true:=by kernel_rfl
theorem YA:oK Tryz.prog 8 31=true:=by kernel_rfl
theorem aeZ:aD Tryz.prog 31=true:=by kernel_rfl
theorem SY:oK Tryz.prog 8 34=true:=by kernel_rfl
theorem acy:aD Tryz.prog 34=true:=by kernel_rfl
theorem Vl{g:Nat}{M:List PV→Option PV}(hl:Ab.look Sn g=some M){W:World}{xs:Array Value}{ps:List PV}(hM:M ps=some (.bool true))(hn:ps.length=xs.size)(hr:∀(i:Nat)p x,ps[i]?=some p→xs[i]?=some x→aj Tryz.prog (iL W) p x):Calls Tryz.prog g xs W fun e W'=>e=.returned (.bool true)∧Below W.heap.size W W':=by have hs:=ab3 (g,M) (tG hl);refine(hs.2 ps (.bool true) hM W (iL W) xs (fun _ _ h=>h) (fun g cs h=>by cases h) hn hr).mono ?_;rintro e w' ⟨y,rfl,hb,hy⟩;cases hy;exact⟨rfl,hb.toBelow⟩
set_option maxRecDepth 100000 in
theorem Ai(os:Os)(started:os.Started)(H:Type)(enc:TypeId×Value→H):ReturnsInHanded {} Tryz.checked os 8 .any (Rows.overlayCommutesSpec.pre6 enc Tryz.prog Tryz.f8 Rows.overlayCommutesRow.domain false) (Rows.overlayCommutesSpec.post enc Tryz.prog Tryz.f8 false true false false):=by
 refine returnsInHanded_of_change (C:=Tryz.checked) acx started (by kernel_rfl) Tryz.func8 (ChangeSpec.witness6 (enc:=enc) (C:=Tryz.checked) false ⟨#[],#[.agg #[.slice none 0 0,.slice none 0 0,.slice none 0 0,.slice none 0 0,.slice none 0 0,.slice none 0 0,.int .i64 0,.int .i64 0,.int .i64 0],.agg #[.int .i64 0,.int .i64 0,.int .i64 0,.int .i64 0,.int .i64 0,.string ByteArray.empty,.int .i64 0,.int .i64 0,.int .i64 0,.int .i64 0,.int .i64 0,.bool false,.slice none 0 0],.agg #[.int .i64 0,.int .i64 0,.int .i64 0,.int .i64 0,.int .i64 0,.string ByteArray.empty,.int .i64 0,.int .i64 0,.int .i64 0,.int .i64 0,.int .i64 0,.bool false,.slice none 0 0]],[]⟩ 8 (by kernel_rfl) (by kernel_rfl) (by kernel_rfl) (by kernel_rfl)) ?_;intro W base args ds gs before Wt hW agC _;have Vm:∀(j:Nat)t v,Tryz.f8.params[j]?=some t→args[j]?=some v→Value.okWide Tryz.prog W .any base t v:=Wt;have hW':=hW;obtain⟨p,q,hA0,hV,rfl,hfz,Tz⟩:=hW;have hA:DataW.TrodAll enc Tryz.prog W 0 (fun _=>true) true Tryz.f8.params.toList args.toList ds p:=hA0;rw[Tryz.params8]at hA Vm;obtain⟨v0,vs0,d0,ds0,p0,q0,jz,rfl,rfl,h0,r0⟩:=trodAll_cons hA;obtain⟨v1,vs1,d1,ds1,p1,q1,rfl,rfl,rfl,h1,r1⟩:=trodAll_cons r0;obtain⟨v2,vs2,d2,ds2,p2,q2,rfl,rfl,rfl,h2,r2⟩:=trodAll_cons r1;obtain⟨rfl,rfl,rfl⟩:=trodAll_nil r2;obtain rfl:args= #[v0,v1,v2]:=by cases args;simp_all
 obtain⟨rfl,rfl⟩:=trodVars_none hV;have k0:=h0;have lt0:∀x∈p0,x.block<W.heap.size:=by obtain⟨m,hm⟩:=k0;exact DataW.trod_lt m _ _ _ hm
 obtain⟨ps0,hs0,Y5⟩:=EN (d:=7) YA (Vm 0 31 v0 rfl rfl) h0;rw[aeZ]at Y5;obtain⟨T0,hT0,ae0⟩:=HY hs0;rw[hT0]at Y5;have k1:=h1;have lt1:∀x∈p1,x.block<W.heap.size:=by obtain⟨m,hm⟩:=k1;exact DataW.trod_lt m _ _ _ hm
 obtain⟨Ue,hs1,Yg⟩:=EN (d:=7) SY (Vm 1 34 v1 rfl rfl) h1;rw[acy]at Yg;obtain⟨T1,hT1,ae1⟩:=zU hs1;rw[hT1]at Yg;have k2:=h2;have lt2:∀x∈p2,x.block<W.heap.size:=by obtain⟨m,hm⟩:=k2;exact DataW.trod_lt m _ _ _ hm
 obtain⟨ps2,Uk,Jf⟩:=EN (d:=7) SY (Vm 2 34 v2 rfl rfl) h2;rw[acy]at Jf;obtain⟨T2,hT2,ae2⟩:=zU Uk;rw[hT2]at Jf;clear hA0 Wt;refine(Vl (g:=8) (M:=dF) (ps:=[T0.pv,T1.pv,T2.pv]) (by kernel_rfl) (Tt.FK T0 T1 T2 ae0 ae1 ae2) rfl (fun i p x hp hx=>?_)).mono fun e W'⟨he,bel⟩=>?_
 ·match i with
  |0=>simp at hp hx;subst hp;subst hx;exact Y5
  |1=>simp at hp hx;subst hp;subst hx;exact Yg
  |2=>simp at hp hx;subst hp;subst hx;exact Jf
  |i+3=>simp at hp
 subst he;exact⟨_,rfl,_,_,_,[],_,[],hW',trodAll_mk1 (shut_bool Tryz.underlying4 _),(trodAll_cons_mk (Below.trod yT (by kernel_rfl) (of_decide_eq_true (by kernel_rfl)) k0 bel lt0) (trodAll_cons_mk (Below.trod yT (by kernel_rfl) (of_decide_eq_true (by kernel_rfl)) k1 bel lt1) (trodAll_cons_mk (Below.trod yT (by kernel_rfl) (of_decide_eq_true (by kernel_rfl)) k2 bel lt2) trodAll_mk0))),rfl,bel.frame _,fun h=>by cases h⟩
theorem commutes_holds:Rows.OverlayCommutesSaid:=OpenClaim.holds_of_wide 8 Tryz.f8 rfl rfl rfl rfl rfl rfl rfl ⟨rfl,rfl,rfl,rfl,rfl⟩ rfl rfl rfl rfl rfl (by kernel_rfl) Tryz.func8 (by kernel_rfl) (of_decide_eq_true (by kernel_rfl)) (by unfold Func.isWrapper;first|(rw[if_pos (by decide+kernel)];kernel_rfl)|(rw[if_neg (by decide+kernel)];exact⟨rfl,rfl⟩)) (fun os started H enc _=>Ai os started H enc)
end Go.Proofs.YtcmhmlnkhmefbaaGreat
