/- For every input the statement LiveIdle holds: the call returns true, and the arguments read behind the call as they read before. No condition. -/
import Derived.Test.YtoaknfoobjnjgaaGreatOk
import Derived.Test.YtoaknfoobjnjgaaGreatShp
import Derived.Test.YtoaknfoobjnjgaaGreatLiP1
import Derived.Test.YtoaknfoobjnjgaaGreatRows
namespace Go.Proofs.YtoaknfoobjnjgaaGreat
open Go.ChangeShapes Go.WideShapes Go.ChangeAt Go.RowKit Go.Ab
theorem aki:ownKnob Tryz.prog.godebug=none:=by kernel_rfl
theorem K5:laidOutB Tryz.prog=true:=by kernel_rfl
theorem agY:tE Tryz.prog 9 58=true:=by kernel_rfl
theorem amq:aJ Tryz.prog 58=false:=by kernel_rfl
theorem agZ:tE Tryz.prog 9 37=true:=by kernel_rfl
theorem amr:aJ Tryz.prog 37=true:=by kernel_rfl
theorem adW{g:Nat}{M:List PV→Option PV}(hl:Ab.look Ub g=some M){W:World}{xs:Array Value}{ps:List PV}(hM:M ps=some (.bool true))(hn:ps.length=xs.size)(hr:∀(i:Nat)p x,ps[i]?=some p→xs[i]?=some x→au Tryz.prog (kP W) p x):Calls Tryz.prog g xs W fun e W'=>e=.returned (.bool true)∧Below W.heap.size W W':=by have hs:=agE (g,M) (zg hl);refine(hs.2 ps (.bool true) hM W (kP W) xs (fun _ _ h=>h) (fun g cs h=>by cases h) hn hr).mono ?_;rintro e w' ⟨y,rfl,hb,hy⟩;cases hy;exact⟨rfl,hb.toBelow⟩
set_option maxRecDepth 100000 in
theorem PS(os:Os)(started:os.Started)(H:Type)(enc:TypeId×Value→H):ReturnsInHanded {} Tryz.checked os 6 .any (Rows.liveIdleSpec.pre6 enc Tryz.prog Tryz.f6 Rows.liveIdleRow.domain false) (Rows.liveIdleSpec.post enc Tryz.prog Tryz.f6 false true false false):=by
 refine returnsInHanded_of_change (C:=Tryz.checked) aki started (by kernel_rfl) Tryz.func6 (ChangeSpec.witness6 (enc:=enc) (C:=Tryz.checked) false ⟨#[],#[.agg #[.slice none 0 0,.slice none 0 0,.slice none 0 0,.slice none 0 0,.slice none 0 0,.slice none 0 0,.slice none 0 0,.slice none 0 0,.slice none 0 0,.slice none 0 0,.int .i64 0,.int .i64 0,.int .i64 0,.int .i64 0,.int .i64 0,.int .i64 0,.int .i64 0],.slice none 0 0],[]⟩ 8 (by kernel_rfl) (by kernel_rfl) (by kernel_rfl) (by kernel_rfl)) ?_;intro W base args ds gs before ae0 hW anw _;have ag0:∀(j:Nat)t v,Tryz.f6.params[j]?=some t→args[j]?=some v→Value.okWide Tryz.prog W .any base t v:=ae0;have hW':=hW;obtain⟨p,q,hA0,hV,rfl,hfz,SL⟩:=hW;have hA:DataW.TrodAll enc Tryz.prog W 0 (fun _=>true) true Tryz.f6.params.toList args.toList ds p:=hA0;rw[Tryz.params6]at hA ag0;obtain⟨v0,vs0,d0,ds0,p0,q0,tu,rfl,rfl,h0,r0⟩:=trodAll_cons hA;obtain⟨v1,vs1,d1,ds1,p1,q1,rfl,rfl,rfl,h1,r1⟩:=trodAll_cons r0;obtain⟨rfl,rfl,rfl⟩:=trodAll_nil r1;obtain rfl:args= #[v0,v1]:=by cases args;simp_all
 obtain⟨rfl,rfl⟩:=trodVars_none hV;have k0:=h0;have lt0:∀x∈p0,x.block<W.heap.size:=by obtain⟨m,hm⟩:=k0;exact DataW.trod_lt m _ _ _ hm
 obtain⟨ps0,hs0,hr0⟩:=Te (d:=8) agZ (ag0 0 37 v0 rfl rfl) h0;rw[amr]at hr0;obtain⟨T0,ta,tb,tc,te,hT0,ams⟩:=Wx hs0;rw[hT0]at hr0;have k1:=h1;have lt1:∀x∈p1,x.block<W.heap.size:=by obtain⟨m,hm⟩:=k1;exact DataW.trod_lt m _ _ _ hm
 obtain⟨ps1,hs1,hr1⟩:=Te (d:=8) agY (ag0 1 58 v1 rfl rfl) h1;rw[amq]at hr1;obtain⟨T1,hT1,hL1,amt⟩:=adX hs1;rw[hT1]at hr1;clear hA0 ae0;refine(adW (g:=6) (M:=qj) (ps:=[Tt.sPV T0 ta tb tc te,.rs 15 (T1.map Tt.zi.pv)]) (by kernel_rfl) (Tt.YX T0 ams ta tb tc te T1 amt) rfl (fun i p x hp hx=>?_)).mono fun e W'⟨he,bel⟩=>?_
 ·match i with
  |0=>simp at hp hx;subst hp;subst hx;exact hr0
  |1=>simp at hp hx;subst hp;subst hx;exact hr1
  |i+2=>simp at hp
 subst he;exact⟨_,rfl,_,_,_,[],_,[],hW',trodAll_mk1 (shut_bool Tryz.underlying4 _),(trodAll_cons_mk (Below.trod K5 (by kernel_rfl) (of_decide_eq_true (by kernel_rfl)) k0 bel lt0) (trodAll_cons_mk (Below.trod K5 (by kernel_rfl) (of_decide_eq_true (by kernel_rfl)) k1 bel lt1) trodAll_mk0)),rfl,bel.frame _,fun h=>by cases h⟩
theorem jf0:(Rows.liveIdleRow.inPlace==Tryz.prog.inPlace 6)=true:=by kernel_rfl
theorem jf1:(Rows.liveIdleRow.unfollowed==Tryz.prog.unfollowed 6)=true:=by kernel_rfl
theorem jf2:(Rows.liveIdleRow.recurses==Tryz.prog.recurses 6)=true:=by kernel_rfl
theorem jf3:(Rows.liveIdleRow.named==Tryz.prog.varsNamed 6)=true:=by kernel_rfl
theorem jfA:joinedFacts Tryz.prog 6 Tryz.f6 Rows.liveIdleSpec Rows.liveIdleRow=true:=by unfold joinedFacts;rw[jf0,jf1,jf2,jf3];kernel_rfl
theorem idle_holds:Rows.LiveIdleSaid:=OpenClaim.holds_of_wide 6 Tryz.f6 rfl rfl rfl rfl rfl rfl rfl ⟨rfl,rfl,rfl,rfl,rfl⟩ rfl rfl rfl rfl rfl (by kernel_rfl) Tryz.func6 jfA (of_decide_eq_true (by kernel_rfl)) (by unfold Func.isWrapper;first|(rw[if_pos (by decide+kernel)];kernel_rfl)|(rw[if_neg (by decide+kernel)];exact⟨rfl,rfl⟩)) (fun os started H enc _=>PS os started H enc)
end Go.Proofs.YtoaknfoobjnjgaaGreat
