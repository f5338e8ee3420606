/- For every input the statement LiveNews holds: the call returns true, and the argument reads behind the call as it read before. No condition. -/
import Derived.Test.YtoaknfoobjnjgaaGreatOk
import Derived.Test.YtoaknfoobjnjgaaGreatShp
import Derived.Test.YtoaknfoobjnjgaaGreatLvP1
import Derived.Test.YtoaknfoobjnjgaaGreatRows
namespace Go.Proofs.YtoaknfoobjnjgaaGreat
open Go.ChangeShapes Go.WideShapes Go.ChangeAt Go.RowKit Go.Ab
theorem ali:ownKnob Tryz.prog.godebug=none:=by kernel_rfl
theorem Yh:laidOutB Tryz.prog=true:=by kernel_rfl
theorem aeu:xe Tryz.prog 9 37=true:=by kernel_rfl
theorem alj:aG Tryz.prog 37=true:=by kernel_rfl
theorem aev{g:Nat}{M:List PV→Option PV}(hl:Ab.look Wa g=some M){W:World}{xs:Array Value}{ps:List PV}(hM:M ps=some (.bool true))(hn:ps.length=xs.size)(hr:∀(i:Nat)p x,ps[i]?=some p→xs[i]?=some x→aq Tryz.prog (kK W) p x):Calls Tryz.prog g xs W fun e W'=>e=.returned (.bool true)∧Below W.heap.size W W':=by have hs:=ahX (g,M) (Bb hl);refine(hs.2 ps (.bool true) hM W (kK W) xs (fun _ _ h=>h) (fun g cs h=>by cases h) hn hr).mono ?_;rintro e w' ⟨y,rfl,hb,hy⟩;cases hy;exact⟨rfl,hb.toBelow⟩
set_option maxRecDepth 100000 in
theorem QU(os:Os)(started:os.Started)(H:Type)(enc:TypeId×Value→H):ReturnsInHanded {} Tryz.checked os 3 .any (Rows.liveNewsSpec.pre6 enc Tryz.prog Tryz.f3 Rows.liveNewsRow.domain false) (Rows.liveNewsSpec.post enc Tryz.prog Tryz.f3 false true false false):=by
 refine returnsInHanded_of_change (C:=Tryz.checked) ali started (by kernel_rfl) Tryz.func3 (ChangeSpec.witness6 (enc:=enc) (C:=Tryz.checked) false ⟨#[],#[.agg #[.slice none 0 0,.slice none 0 0,.slice none 0 0,.slice none 0 0,.slice none 0 0,.slice none 0 0,.slice none 0 0,.slice none 0 0,.slice none 0 0,.slice none 0 0,.int .i64 0,.int .i64 0,.int .i64 0,.int .i64 0,.int .i64 0,.int .i64 0,.int .i64 0]],[]⟩ 8 (by kernel_rfl) (by kernel_rfl) (by kernel_rfl) (by kernel_rfl)) ?_;intro W base args ds gs before afu hW an4 _;have alk:∀(j:Nat)t v,Tryz.f3.params[j]?=some t→args[j]?=some v→Value.okWide Tryz.prog W .any base t v:=afu;have hW':=hW;obtain⟨p,q,hA0,hV,rfl,hfz,YI⟩:=hW;have hA:DataW.TrodAll enc Tryz.prog W 0 (fun _=>true) true Tryz.f3.params.toList args.toList ds p:=hA0;rw[Tryz.params3]at hA alk;obtain⟨v0,vs0,d0,ds0,p0,q0,uA,rfl,rfl,h0,r0⟩:=trodAll_cons hA;obtain⟨rfl,rfl,rfl⟩:=trodAll_nil r0;obtain rfl:args= #[v0]:=by cases args;simp_all
 obtain⟨rfl,rfl⟩:=trodVars_none hV;have k0:=h0;have lt0:∀x∈p0,x.block<W.heap.size:=by obtain⟨m,hm⟩:=k0;exact DataW.trod_lt m _ _ _ hm
 obtain⟨ps0,hs0,hr0⟩:=adX (d:=8) aeu (alk 0 37 v0 rfl rfl) h0;rw[alj]at hr0;obtain⟨T0,ta,tb,tc,te,hT0,am8⟩:=Yi hs0;rw[hT0]at hr0;clear hA0 afu;refine(aev (g:=3) (M:=qL) (ps:=[Tt.sPV T0 ta tb tc te]) (by kernel_rfl) (Tt.aax T0 am8 ta tb tc te) rfl (fun i p x hp hx=>?_)).mono fun e W'⟨he,bel⟩=>?_
 ·match i with
  |0=>simp at hp hx;subst hp;subst hx;exact hr0
  |i+1=>simp at hp
 subst he;exact⟨_,rfl,_,_,_,[],_,[],hW',trodAll_mk1 (shut_bool Tryz.underlying4 _),(trodAll_cons_mk (Below.trod Yh (by kernel_rfl) (of_decide_eq_true (by kernel_rfl)) k0 bel lt0) trodAll_mk0),rfl,bel.frame _,fun h=>by cases h⟩
theorem jf0:(Rows.liveNewsRow.inPlace==Tryz.prog.inPlace 3)=true:=by kernel_rfl
theorem jf1:(Rows.liveNewsRow.unfollowed==Tryz.prog.unfollowed 3)=true:=by kernel_rfl
theorem jf2:(Rows.liveNewsRow.recurses==Tryz.prog.recurses 3)=true:=by kernel_rfl
theorem jf3:(Rows.liveNewsRow.named==Tryz.prog.varsNamed 3)=true:=by kernel_rfl
theorem jfA:joinedFacts Tryz.prog 3 Tryz.f3 Rows.liveNewsSpec Rows.liveNewsRow=true:=by unfold joinedFacts;rw[jf0,jf1,jf2,jf3];kernel_rfl
theorem news_holds:Rows.LiveNewsSaid:=OpenClaim.holds_of_wide 3 Tryz.f3 rfl rfl rfl rfl rfl rfl rfl ⟨rfl,rfl,rfl,rfl,rfl⟩ rfl rfl rfl rfl rfl (by kernel_rfl) Tryz.func3 jfA (of_decide_eq_true (by kernel_rfl)) (by unfold Func.isWrapper;first|(rw[if_pos (by decide+kernel)];kernel_rfl)|(rw[if_neg (by decide+kernel)];exact⟨rfl,rfl⟩)) (fun os started H enc _=>QU os started H enc)
end Go.Proofs.YtoaknfoobjnjgaaGreat
