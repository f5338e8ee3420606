/- For every input the statement NetworkBuild holds: the call returns true, and the arguments read behind the call as they read before. No condition. -/
import Derived.Test.YteddgaennnfacaaGreatOk
import Derived.Test.YteddgaennnfacaaGreatShp
import Derived.Test.YteddgaennnfacaaGreatNbP1
import Derived.Test.YteddgaennnfacaaGreatRows
namespace Go.Proofs.YteddgaennnfacaaGreat
open Go.ChangeShapes Go.WideShapes Go.ChangeAt Go.RowKit Go.Ab
theorem aiJ:ownKnob Tryz.prog.godebug=none:=by kernel_rfl
theorem Wi:laidOutB Tryz.prog=true:=by kernel_rfl
theorem acA:wH Tryz.prog 8 35=true:=by kernel_rfl
theorem aiK:aD Tryz.prog 35=true:=by kernel_rfl
theorem acB{g:Nat}{M:List PV→Option PV}(hl:Ab.look Uj g=some M){W:World}{xs:Array Value}{ps:List PV}(hM:M ps=some (.bool true))(hn:ps.length=xs.size)(hr:∀(i:Nat)p x,ps[i]?=some p→xs[i]?=some x→ao Tryz.prog (jf W) p x):Calls Tryz.prog g xs W fun e W'=>e=.returned (.bool true)∧Below W.heap.size W W':=by have hs:=afD (g,M) (Ay hl);refine(hs.2 ps (.bool true) hM W (jf W) xs (fun _ _ h=>h) (fun g cs h=>by cases h) hn hr).mono ?_;rintro e w' ⟨y,rfl,hb,hy⟩;cases hy;exact⟨rfl,hb.toBelow⟩
set_option maxRecDepth 100000 in
theorem M1(os:Os)(started:os.Started)(H:Type)(enc:TypeId×Value→H):ReturnsInHanded {} Tryz.checked os 3 .any (Rows.networkBuildSpec.pre6 enc Tryz.prog Tryz.f3 Rows.networkBuildRow.domain false) (Rows.networkBuildSpec.post enc Tryz.prog Tryz.f3 false true false false):=by
 refine returnsInHanded_of_change (C:=Tryz.checked) aiJ started (by kernel_rfl) Tryz.func3 (ChangeSpec.witness6 (enc:=enc) (C:=Tryz.checked) false ⟨#[],#[.agg #[.slice none 0 0,.slice none 0 0,.slice none 0 0,.slice none 0 0,.slice none 0 0,.slice none 0 0,.slice none 0 0,.slice none 0 0,.slice none 0 0,.slice none 0 0,.int .i64 0,.int .i64 0,.int .i64 0],.int .i64 0,.int .i64 0],[]⟩ 8 (by kernel_rfl) (by kernel_rfl) (by kernel_rfl) (by kernel_rfl)) ?_;intro W base args ds gs before adz hW alc _;have Vt:∀(j:Nat)t v,Tryz.f3.params[j]?=some t→args[j]?=some v→Value.okWide Tryz.prog W .any base t v:=adz;have hW':=hW;obtain⟨p,q,hA0,hV,rfl,hfz,hnd⟩:=hW;have hA:DataW.TrodAll enc Tryz.prog W 0 (fun _=>true) true Tryz.f3.params.toList args.toList ds p:=hA0;rw[Tryz.params3]at hA Vt;obtain⟨v0,vs0,d0,ds0,p0,q0,ud,rfl,rfl,h0,r0⟩:=trodAll_cons hA;obtain⟨v1,vs1,d1,ds1,p1,q1,rfl,rfl,rfl,h1,r1⟩:=trodAll_cons r0;obtain⟨v2,vs2,d2,ds2,p2,q2,rfl,rfl,rfl,h2,r2⟩:=trodAll_cons r1;obtain⟨rfl,rfl,rfl⟩:=trodAll_nil r2;obtain rfl:args= #[v0,v1,v2]:=by cases args;simp_all
 obtain⟨rfl,rfl⟩:=trodVars_none hV;have k0:=h0;have lt0:∀x∈p0,x.block<W.heap.size:=by obtain⟨m,hm⟩:=k0;exact DataW.trod_lt m _ _ _ hm
 obtain⟨ps0,hs0,hr0⟩:=abS (d:=7) acA (Vt 0 35 v0 rfl rfl) h0;rw[aiK]at hr0;obtain⟨T0,hT0,akj⟩:=Kg hs0;rw[hT0]at hr0;obtain⟨a1,rfl,rfl,rfl,w1⟩:=open_int Tryz.underlying3 (Vt 1 3 v1 rfl rfl) h1;have hr1:ao Tryz.prog (jf W) (.int .i64 a1) (.int .i64 a1):=.int w1;obtain⟨a2,rfl,rfl,rfl,w2⟩:=open_int Tryz.underlying3 (Vt 2 3 v2 rfl rfl) h2;have L6:ao Tryz.prog (jf W) (.int .i64 a2) (.int .i64 a2):=.int w2;clear hA0 adz;refine(acB (g:=3) (M:=eT) (ps:=[T0.pv,.int .i64 a1,.int .i64 a2]) (by kernel_rfl) (Tt.Vv T0 a1 a2 akj w1 w2) rfl (fun i p x hp hx=>?_)).mono fun e W'⟨he,bel⟩=>?_
 ·match i with
  |0=>simp at hp hx;subst hp;subst hx;exact hr0
  |1=>simp at hp hx;subst hp;subst hx;exact hr1
  |2=>simp at hp hx;subst hp;subst hx;exact L6
  |i+3=>simp at hp
 subst he;exact⟨_,rfl,_,_,_,[],_,[],hW',trodAll_mk1 (shut_bool Tryz.underlying4 _),(trodAll_cons_mk (Below.trod Wi (by kernel_rfl) (of_decide_eq_true (by kernel_rfl)) k0 bel lt0) (trodAll_cons_mk (shut_int Tryz.underlying3 w1) (trodAll_cons_mk (shut_int Tryz.underlying3 w2) trodAll_mk0))),rfl,bel.frame _,fun h=>by cases h⟩
theorem jf0:(Rows.networkBuildRow.inPlace==Tryz.prog.inPlace 3)=true:=by kernel_rfl
theorem jf1:(Rows.networkBuildRow.unfollowed==Tryz.prog.unfollowed 3)=true:=by kernel_rfl
theorem jf2:(Rows.networkBuildRow.recurses==Tryz.prog.recurses 3)=true:=by kernel_rfl
theorem jf3:(Rows.networkBuildRow.named==Tryz.prog.varsNamed 3)=true:=by kernel_rfl
theorem jfA:joinedFacts Tryz.prog 3 Tryz.f3 Rows.networkBuildSpec Rows.networkBuildRow=true:=by unfold joinedFacts;rw[jf0,jf1,jf2,jf3];kernel_rfl
theorem build_holds:Rows.NetworkBuildSaid:=OpenClaim.holds_of_wide 3 Tryz.f3 rfl rfl rfl rfl rfl rfl rfl ⟨rfl,rfl,rfl,rfl,rfl⟩ rfl rfl rfl rfl rfl (by kernel_rfl) Tryz.func3 jfA (of_decide_eq_true (by kernel_rfl)) (by unfold Func.isWrapper;first|(rw[if_pos (by decide+kernel)];kernel_rfl)|(rw[if_neg (by decide+kernel)];exact⟨rfl,rfl⟩)) (fun os started H enc _=>M1 os started H enc)
end Go.Proofs.YteddgaennnfacaaGreat
