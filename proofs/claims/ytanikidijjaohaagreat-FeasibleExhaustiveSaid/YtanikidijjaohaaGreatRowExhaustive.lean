/- For every input the statement FeasibleExhaustive holds: the call returns true, and the arguments read behind the call as they read before. No condition. -/
import Derived.Test.YtanikidijjaohaaGreatOk
import Derived.Test.YtanikidijjaohaaGreatShp
import Derived.Test.YtanikidijjaohaaGreatFcP1
import Derived.Test.YtanikidijjaohaaGreatRows
namespace Go.Proofs.YtanikidijjaohaaGreat
open Go.ChangeShapes Go.WideShapes Go.ChangeAt Go.RowKit Go.Ab
theorem ags:ownKnob Tryz.prog.godebug=none:=by kernel_rfl
theorem I5:laidOutB Tryz.prog=true:=by kernel_rfl
theorem ado:se Tryz.prog 8 33=true:=by kernel_rfl
theorem ah2:aF Tryz.prog 33=true:=by kernel_rfl
theorem adp:se Tryz.prog 8 31=true:=by kernel_rfl
theorem ah3:aF Tryz.prog 31=true:=by kernel_rfl
theorem aaV{g:Nat}{M:List PV→Option PV}(hl:Ab.look TH g=some M){W:World}{xs:Array Value}{ps:List PV}(hM:M ps=some (.bool true))(hn:ps.length=xs.size)(hr:∀(i:Nat)p x,ps[i]?=some p→xs[i]?=some x→ai Tryz.prog (kx W) p x):Calls Tryz.prog g xs W fun e W'=>e=.returned (.bool true)∧Below W.heap.size W W':=by have hs:=adn (g,M) (xw hl);refine(hs.2 ps (.bool true) hM W (kx W) xs (fun _ _ h=>h) (fun g cs h=>by cases h) hn hr).mono ?_;rintro e w' ⟨y,rfl,hb,hy⟩;cases hy;exact⟨rfl,hb.toBelow⟩
set_option maxRecDepth 100000 in
theorem BK(os:Os)(started:os.Started)(H:Type)(enc:TypeId×Value→H):ReturnsInHanded {} Tryz.checked os 9 .any (Rows.feasibleExhaustiveSpec.pre6 enc Tryz.prog Tryz.f9 Rows.feasibleExhaustiveRow.domain false) (Rows.feasibleExhaustiveSpec.post enc Tryz.prog Tryz.f9 false true false false):=by
 refine returnsInHanded_of_change (C:=Tryz.checked) ags started (by kernel_rfl) Tryz.func9 (ChangeSpec.witness6 (enc:=enc) (C:=Tryz.checked) false ⟨#[],#[.agg #[.slice none 0 0,.slice none 0 0,.slice none 0 0,.slice none 0 0,.slice none 0 0,.slice none 0 0,.int .i64 0,.int .i64 0,.int .i64 0],.agg #[.int .i64 0,.int .i64 0,.int .i64 0,.bool false,.int .i64 0,.int .i64 0,.bool false,.bool false,.int .i64 0,.bool false]],[]⟩ 8 (by kernel_rfl) (by kernel_rfl) (by kernel_rfl) (by kernel_rfl)) ?_;intro W base args ds gs before abG hW ajr _;have adq:∀(j:Nat)t v,Tryz.f9.params[j]?=some t→args[j]?=some v→Value.okWide Tryz.prog W .any base t v:=abG;have hW':=hW;obtain⟨p,q,hA0,hV,rfl,hfz,hnd⟩:=hW;have hA:DataW.TrodAll enc Tryz.prog W 0 (fun _=>true) true Tryz.f9.params.toList args.toList ds p:=hA0;rw[Tryz.params9]at hA adq;obtain⟨v0,vs0,d0,ds0,p0,q0,rX,rfl,rfl,h0,r0⟩:=trodAll_cons hA;obtain⟨v1,yz,d1,ds1,p1,q1,rfl,rfl,rfl,h1,r1⟩:=trodAll_cons r0;obtain⟨rfl,rfl,rfl⟩:=trodAll_nil r1;obtain rfl:args= #[v0,v1]:=by cases args;simp_all
 obtain⟨rfl,rfl⟩:=trodVars_none hV;have k0:=h0;have lt0:∀x∈p0,x.block<W.heap.size:=by obtain⟨m,hm⟩:=k0;exact DataW.trod_lt m _ _ _ hm
 obtain⟨ps0,Hk,hr0⟩:=SS (d:=7) adp (adq 0 31 v0 rfl rfl) h0;rw[ah3]at hr0;obtain⟨T0,hT0,ah4⟩:=M3 Hk;rw[hT0]at hr0;have k1:=h1;have lt1:∀x∈p1,x.block<W.heap.size:=by obtain⟨m,hm⟩:=k1;exact DataW.trod_lt m _ _ _ hm
 obtain⟨ps1,hs1,Zj⟩:=SS (d:=7) ado (adq 1 33 v1 rfl rfl) h1;rw[ah2]at Zj;obtain⟨T1,hT1,ah5⟩:=Vt hs1;rw[hT1]at Zj;clear hA0 abG;refine(aaV (g:=9) (M:=dc) (ps:=[T0.pv,T1.pv]) (by kernel_rfl) (Tt.GD T0 T1 ah4 ah5) rfl (fun i p x hp hx=>?_)).mono fun e W'⟨he,bel⟩=>?_
 ·match i with
  |0=>simp at hp hx;subst hp;subst hx;exact hr0
  |1=>simp at hp hx;subst hp;subst hx;exact Zj
  |i+2=>simp at hp
 subst he;exact⟨_,rfl,_,_,_,[],_,[],hW',trodAll_mk1 (shut_bool Tryz.underlying4 _),(trodAll_cons_mk (Below.trod I5 (by kernel_rfl) (of_decide_eq_true (by kernel_rfl)) k0 bel lt0) (trodAll_cons_mk (Below.trod I5 (by kernel_rfl) (of_decide_eq_true (by kernel_rfl)) k1 bel lt1) trodAll_mk0)),rfl,bel.frame _,fun h=>by cases h⟩
theorem exhaustive_holds:Rows.FeasibleExhaustiveSaid:=OpenClaim.holds_of_wide 9 Tryz.f9 rfl rfl rfl rfl rfl rfl rfl ⟨rfl,rfl,rfl,rfl,rfl⟩ rfl rfl rfl rfl rfl (by kernel_rfl) Tryz.func9 (by kernel_rfl) (of_decide_eq_true (by kernel_rfl)) (by unfold Func.isWrapper;first|(rw[if_pos (by decide+kernel)];kernel_rfl)|(rw[if_neg (by decide+kernel)];exact⟨rfl,rfl⟩)) (fun os started H enc _=>BK os started H enc)
end Go.Proofs.YtanikidijjaohaaGreat
