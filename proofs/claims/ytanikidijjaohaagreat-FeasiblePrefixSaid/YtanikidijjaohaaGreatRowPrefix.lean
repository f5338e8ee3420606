/- For every input the statement FeasiblePrefix holds: the call returns true, and the arguments read behind the call as they read before. No condition. -/
import Derived.Test.YtanikidijjaohaaGreatOk
import Derived.Test.YtanikidijjaohaaGreatShp
import Derived.Test.YtanikidijjaohaaGreatFbP3
import Derived.Test.YtanikidijjaohaaGreatRows
namespace Go.Proofs.YtanikidijjaohaaGreat
open Go.ChangeShapes Go.WideShapes Go.ChangeAt Go.RowKit Go.Ab
theorem Af:ownKnob Tryz.prog.godebug=none:=by kernel_rfl
theorem dh:laidOutB Tryz.prog=true:=by kernel_rfl
theorem E6:fN Tryz.prog 8 37=true:=by kernel_rfl
theorem Wf:ao Tryz.prog 37=true:=by kernel_rfl
theorem uO:fN Tryz.prog 8 33=true:=by kernel_rfl
theorem IA:ao Tryz.prog 33=true:=by kernel_rfl
theorem uP:fN Tryz.prog 8 31=true:=by kernel_rfl
theorem IB:ao Tryz.prog 31=true:=by kernel_rfl
theorem pP{g:Nat}{M:List PV→Option PV}(hl:Ab.look xd g=some M){W:World}{xs:Array Value}{ps:List PV}(hM:M ps=some (.bool true))(hn:ps.length=xs.size)(hr:∀(i:Nat)p x,ps[i]?=some p→xs[i]?=some x→af Tryz.prog (e9 W) p x):Calls Tryz.prog g xs W fun e W'=>e=.returned (.bool true)∧Below W.heap.size W W':=by have hs:=E5 (g,M) (mw hl);refine(hs.2 ps (.bool true) hM W (e9 W) xs (fun _ _ h=>h) (fun g cs h=>by cases h) hn hr).mono ?_;rintro e w' ⟨y,rfl,hb,hy⟩;cases hy;exact⟨rfl,hb.toBelow⟩
set_option maxRecDepth 100000 in
theorem FF(os:Os)(started:os.Started)(H:Type)(enc:TypeId×Value→H):ReturnsInHanded {} Tryz.checked os 8 .any (Rows.feasiblePrefixSpec.pre6 enc Tryz.prog Tryz.f8 Rows.feasiblePrefixRow.domain false) (Rows.feasiblePrefixSpec.post enc Tryz.prog Tryz.f8 false true false false):=by
 refine returnsInHanded_of_change (C:=Tryz.checked) Af started (by kernel_rfl) Tryz.func8 (ChangeSpec.witness6 (enc:=enc) (C:=Tryz.checked) false ⟨#[],#[.agg #[.slice none 0 0,.slice none 0 0,.slice none 0 0,.slice none 0 0,.slice none 0 0,.slice none 0 0,.int .i64 0,.int .i64 0,.int .i64 0],.agg #[.int .i64 0,.int .i64 0,.int .i64 0,.bool false,.int .i64 0,.int .i64 0,.bool false,.bool false,.int .i64 0,.bool false],.agg #[.slice none 0 0]],[]⟩ 8 (by kernel_rfl) (by kernel_rfl) (by kernel_rfl) (by kernel_rfl)) ?_;intro W base args ds gs before se hW Yw _;have rF:∀(j:Nat)t v,Tryz.f8.params[j]?=some t→args[j]?=some v→Value.okWide Tryz.prog W .any base t v:=se;have Yx:=hW;obtain⟨p,q,Rf,hV,rfl,hfz,WI⟩:=hW;have hA:DataW.TrodAll enc Tryz.prog W 0 (fun _=>true) true Tryz.f8.params.toList args.toList ds p:=Rf;rw[Tryz.params8]at hA rF;obtain⟨v0,vs0,d0,ds0,p0,q0,jf,rfl,rfl,h0,r0⟩:=trodAll_cons hA;obtain⟨v1,uQ,d1,ds1,p1,q1,rfl,rfl,rfl,h1,r1⟩:=trodAll_cons r0;obtain⟨v2,vs2,d2,ds2,p2,q2,rfl,rfl,rfl,h2,r2⟩:=trodAll_cons r1;obtain⟨rfl,rfl,rfl⟩:=trodAll_nil r2;obtain rfl:args= #[v0,v1,v2]:=by cases args;simp_all
 obtain⟨rfl,rfl⟩:=trodVars_none hV;have k0:=h0;have Yy:∀x∈p0,x.block<W.heap.size:=by obtain⟨m,hm⟩:=k0;exact DataW.trod_lt m _ _ _ hm
 obtain⟨ps0,zK,Fe⟩:=jI (d:=7) uP (rF 0 31 v0 rfl rfl) h0;rw[IB]at Fe;obtain⟨T0,Yz,IC⟩:=oN zK;rw[Yz]at Fe;have k1:=h1;have YA:∀x∈p1,x.block<W.heap.size:=by obtain⟨m,hm⟩:=k1;exact DataW.trod_lt m _ _ _ hm
 obtain⟨RC,TS,E4⟩:=jI (d:=7) uO (rF 1 33 v1 rfl rfl) h1;rw[IA]at E4;obtain⟨T1,YB,ID⟩:=tM TS;rw[YB]at E4;have k2:=h2;have lt2:∀x∈p2,x.block<W.heap.size:=by obtain⟨m,hm⟩:=k2;exact DataW.trod_lt m _ _ _ hm
 obtain⟨ps2,Mh,AK⟩:=jI (d:=7) E6 (rF 2 37 v2 rfl rfl) h2;rw[Wf]at AK;obtain⟨T2,hT2,Pb⟩:=wH Mh;rw[hT2]at AK;clear Rf se;refine(pP (g:=8) (M:=dV) (ps:=[T0.pv,T1.pv,Tt.yJ T2]) (by kernel_rfl) (Tt.OJ T0 T1 T2 IC ID Pb) rfl (fun i p x hp hx=>?_)).mono fun e W'⟨he,E7⟩=>?_
 ·match i with
  |0=>simp at hp hx;subst hp;subst hx;exact Fe
  |1=>simp at hp hx;subst hp;subst hx;exact E4
  |2=>simp at hp hx;subst hp;subst hx;exact AK
  |i+3=>simp at hp
 subst he;exact⟨_,rfl,_,_,_,[],_,[],Yx,trodAll_mk1 (shut_bool Tryz.underlying4 _),(trodAll_cons_mk (Below.trod dh (by kernel_rfl) (of_decide_eq_true (by kernel_rfl)) k0 E7 Yy) (trodAll_cons_mk (Below.trod dh (by kernel_rfl) (of_decide_eq_true (by kernel_rfl)) k1 E7 YA) (trodAll_cons_mk (Below.trod dh (by kernel_rfl) (of_decide_eq_true (by kernel_rfl)) k2 E7 lt2) trodAll_mk0))),rfl,E7.frame _,fun h=>by cases h⟩
theorem prefix_holds:Rows.FeasiblePrefixSaid:=OpenClaim.holds_of_wide 8 Tryz.f8 rfl rfl rfl rfl rfl rfl rfl ⟨rfl,rfl,rfl,rfl,rfl⟩ rfl rfl rfl rfl rfl (by kernel_rfl) Tryz.func8 (by kernel_rfl) (of_decide_eq_true (by kernel_rfl)) (by unfold Func.isWrapper;first|(rw[if_pos (by decide+kernel)];kernel_rfl)|(rw[if_neg (by decide+kernel)];exact⟨rfl,rfl⟩)) (fun os started H enc _=>FF os started H enc)
end Go.Proofs.YtanikidijjaohaaGreat
