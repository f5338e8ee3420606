/- For every input the statement LivePlays holds: the call returns true, and the arguments read behind the call as they read before. No condition. -/
import Derived.Test.YtoaknfoobjnjgaaGreatH
import Derived.Test.YtoaknfoobjnjgaaGreatShp
import Derived.Test.YtoaknfoobjnjgaaGreatRows
namespace Go.Proofs.YtoaknfoobjnjgaaGreat
open Go.ChangeShapes Go.WideShapes Go.ChangeAt Go.RowKit Go.Ab
theorem auA:ownKnob Tryz.prog.godebug=none:=by kernel_rfl
theorem Uz:laidOutB Tryz.prog=true:=by kernel_rfl
theorem aq3:An Tryz.prog 9 58=true:=by kernel_rfl
theorem awT:aS Tryz.prog 58=false:=by kernel_rfl
theorem aq4:An Tryz.prog 9 37=true:=by kernel_rfl
theorem awU:aS Tryz.prog 37=true:=by kernel_rfl
theorem al6{g:Nat}{M:List PV→Option PV}(hl:Ab.look adY g=some M){W:World}{xs:Array Value}{ps:List PV}(hM:M ps=some (.bool true))(hn:ps.length=xs.size)(hr:∀(i:Nat)p x,ps[i]?=some p→xs[i]?=some x→aH Tryz.prog (nO W) p x):Calls Tryz.prog g xs W fun e W'=>e=.returned (.bool true)∧Below W.heap.size W W':=by have hs:=aqK (g,M) (GN hl);refine(hs.2 ps (.bool true) hM W (nO W) xs (fun _ _ h=>h) (fun g cs h=>by cases h) hn hr).mono ?_;rintro e w' ⟨y,rfl,hb,hy⟩;cases hy;exact⟨rfl,hb.toBelow⟩
set_option maxRecDepth 100000 in
theorem WK(os:Os)(started:os.Started)(H:Type)(enc:TypeId×Value→H):ReturnsInHanded {} Tryz.checked os 4 .any (Rows.livePlaysSpec.pre6 enc Tryz.prog Tryz.f4 Rows.livePlaysRow.domain false) (Rows.livePlaysSpec.post enc Tryz.prog Tryz.f4 false true false false):=by
 refine returnsInHanded_of_change (C:=Tryz.checked) auA started (by kernel_rfl) Tryz.func4 (ChangeSpec.witness6 (enc:=enc) (C:=Tryz.checked) false ⟨#[],#[.agg #[.slice none 0 0,.slice none 0 0,.slice none 0 0,.slice none 0 0,.slice none 0 0,.slice none 0 0,.slice none 0 0,.slice none 0 0,.slice none 0 0,.slice none 0 0,.int .i64 0,.int .i64 0,.int .i64 0,.int .i64 0,.int .i64 0,.int .i64 0,.int .i64 0],.slice none 0 0],[]⟩ 8 (by kernel_rfl) (by kernel_rfl) (by kernel_rfl) (by kernel_rfl)) ?_;intro W base args ds gs before anj hW ax7 _;have aq5:∀(j:Nat)t v,Tryz.f4.params[j]?=some t→args[j]?=some v→Value.okWide Tryz.prog W .any base t v:=anj;have hW':=hW;obtain⟨p,q,hA0,hV,rfl,hfz,Z2⟩:=hW;have hA:DataW.TrodAll enc Tryz.prog W 0 (fun _=>true) true Tryz.f4.params.toList args.toList ds p:=hA0;rw[Tryz.params4]at hA aq5;obtain⟨v0,vs0,d0,ds0,p0,q0,Ae,rfl,rfl,h0,r0⟩:=trodAll_cons hA;obtain⟨v1,vs1,d1,ds1,p1,q1,rfl,rfl,rfl,h1,r1⟩:=trodAll_cons r0;obtain⟨rfl,rfl,rfl⟩:=trodAll_nil r1;obtain rfl:args= #[v0,v1]:=by cases args;simp_all
 obtain⟨rfl,rfl⟩:=trodVars_none hV;have k0:=h0;have lt0:∀x∈p0,x.block<W.heap.size:=by obtain⟨m,hm⟩:=k0;exact DataW.trod_lt m _ _ _ hm
 obtain⟨ps0,hs0,hr0⟩:=adh (d:=8) aq4 (aq5 0 37 v0 rfl rfl) h0;rw[awU]at hr0;obtain⟨T0,ta,tb,tc,te,hT0,awV⟩:=agm hs0;rw[hT0]at hr0;have k1:=h1;have lt1:∀x∈p1,x.block<W.heap.size:=by obtain⟨m,hm⟩:=k1;exact DataW.trod_lt m _ _ _ hm
 obtain⟨ps1,hs1,hr1⟩:=adh (d:=8) aq3 (aq5 1 58 v1 rfl rfl) h1;rw[awT]at hr1;obtain⟨T1,hT1,hL1,awW⟩:=al7 hs1;rw[hT1]at hr1;clear hA0 anj;refine(al6 (g:=4) (M:=tw) (ps:=[Tt.sPV T0 ta tb tc te,.rs 15 (T1.map Tt.EM.pv)]) (by kernel_rfl) (Tt.afi T0 awV ta tb tc te T1 awW) rfl (fun i p x hp hx=>?_)).mono fun e W'⟨he,bel⟩=>?_
 ·match i with
  |0=>simp at hp hx;subst hp;subst hx;exact hr0
  |1=>simp at hp hx;subst hp;subst hx;exact hr1
  |i+2=>simp at hp
 subst he;exact⟨_,rfl,_,_,_,[],_,[],hW',trodAll_mk1 (shut_bool Tryz.underlying4 _),(trodAll_cons_mk (Below.trod Uz (by kernel_rfl) (of_decide_eq_true (by kernel_rfl)) k0 bel lt0) (trodAll_cons_mk (Below.trod Uz (by kernel_rfl) (of_decide_eq_true (by kernel_rfl)) k1 bel lt1) trodAll_mk0)),rfl,bel.frame _,fun h=>by cases h⟩
theorem jf0:(Rows.livePlaysRow.inPlace==Tryz.prog.inPlace 4)=true:=by kernel_rfl
theorem jf1:(Rows.livePlaysRow.unfollowed==Tryz.prog.unfollowed 4)=true:=by kernel_rfl
theorem jf2:(Rows.livePlaysRow.recurses==Tryz.prog.recurses 4)=true:=by kernel_rfl
theorem jf3:(Rows.livePlaysRow.named==Tryz.prog.varsNamed 4)=true:=by kernel_rfl
theorem jfA:joinedFacts Tryz.prog 4 Tryz.f4 Rows.livePlaysSpec Rows.livePlaysRow=true:=by unfold joinedFacts;rw[jf0,jf1,jf2,jf3];kernel_rfl
theorem plays_holds:Rows.LivePlaysSaid:=OpenClaim.holds_of_wide 4 Tryz.f4 rfl rfl rfl rfl rfl rfl rfl ⟨rfl,rfl,rfl,rfl,rfl⟩ rfl rfl rfl rfl rfl (by kernel_rfl) Tryz.func4 jfA (of_decide_eq_true (by kernel_rfl)) (by unfold Func.isWrapper;first|(rw[if_pos (by decide+kernel)];kernel_rfl)|(rw[if_neg (by decide+kernel)];exact⟨rfl,rfl⟩)) (fun os started H enc _=>WK os started H enc)
end Go.Proofs.YtoaknfoobjnjgaaGreat
