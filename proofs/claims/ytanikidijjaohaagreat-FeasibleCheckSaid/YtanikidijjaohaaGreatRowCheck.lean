/- For every input the statement FeasibleCheck holds: the call returns true, and the arguments read behind the call as they read before. No condition. -/
import Derived.Test.YtanikidijjaohaaGreatOk
import Derived.Test.YtanikidijjaohaaGreatShp
import Derived.Test.YtanikidijjaohaaGreatFbP3
import Derived.Test.YtanikidijjaohaaGreatRows
namespace Go.Proofs.YtanikidijjaohaaGreat
open Go.ChangeShapes Go.WideShapes Go.ChangeAt Go.RowKit Go.Ab
theorem adN:ownKnob Tryz.prog.godebug=none:=by kernel_rfl
theorem AS:laidOutB Tryz.prog=true:=by kernel_rfl
theorem aaO:oF Tryz.prog 8 37=true:=by kernel_rfl
theorem afh:ay Tryz.prog 37=true:=by kernel_rfl
theorem aaP:oF Tryz.prog 8 33=true:=by kernel_rfl
theorem afi:ay Tryz.prog 33=true:=by kernel_rfl
theorem aaQ:oF Tryz.prog 8 31=true:=by kernel_rfl
theorem afj:ay Tryz.prog 31=true:=by kernel_rfl
theorem Xp{g:Nat}{M:List PV→Option PV}(hl:Ab.look Qq g=some M){W:World}{xs:Array Value}{ps:List PV}(hM:M ps=some (.bool true))(hn:ps.length=xs.size)(hr:∀(i:Nat)p x,ps[i]?=some p→xs[i]?=some x→af Tryz.prog (jK W) p x):Calls Tryz.prog g xs W fun e W'=>e=.returned (.bool true)∧Below W.heap.size W W':=by have hs:=aaN (g,M) (vh hl);refine(hs.2 ps (.bool true) hM W (jK W) xs (fun _ _ h=>h) (fun g cs h=>by cases h) hn hr).mono ?_;rintro e w' ⟨y,rfl,hb,hy⟩;cases hy;exact⟨rfl,hb.toBelow⟩
set_option maxRecDepth 100000 in
theorem HO(os:Os)(started:os.Started)(H:Type)(enc:TypeId×Value→H):ReturnsInHanded {} Tryz.checked os 4 .any (Rows.feasibleCheckSpec.pre6 enc Tryz.prog Tryz.f4 Rows.feasibleCheckRow.domain false) (Rows.feasibleCheckSpec.post enc Tryz.prog Tryz.f4 false true false false):=by
 refine returnsInHanded_of_change (C:=Tryz.checked) adN started (by kernel_rfl) Tryz.func4 (ChangeSpec.witness6 (enc:=enc) (C:=Tryz.checked) false ⟨#[],#[.agg #[.slice none 0 0,.slice none 0 0,.slice none 0 0,.slice none 0 0,.slice none 0 0,.slice none 0 0,.int .i64 0,.int .i64 0,.int .i64 0],.agg #[.int .i64 0,.int .i64 0,.int .i64 0,.bool false,.int .i64 0,.int .i64 0,.bool false,.bool false,.int .i64 0,.bool false],.agg #[.slice none 0 0]],[]⟩ 8 (by kernel_rfl) (by kernel_rfl) (by kernel_rfl) (by kernel_rfl)) ?_;intro W base args ds gs before YH hW agH _;have Xq:∀(j:Nat)t v,Tryz.f4.params[j]?=some t→args[j]?=some v→Value.okWide Tryz.prog W .any base t v:=YH;have hW':=hW;obtain⟨p,q,hA0,hV,rfl,hfz,hnd⟩:=hW;have hA:DataW.TrodAll enc Tryz.prog W 0 (fun _=>true) true Tryz.f4.params.toList args.toList ds p:=hA0;rw[Tryz.params4]at hA Xq;obtain⟨v0,vs0,d0,ds0,p0,q0,qg,rfl,rfl,h0,r0⟩:=trodAll_cons hA;obtain⟨v1,wg,d1,ds1,p1,q1,rfl,rfl,rfl,h1,r1⟩:=trodAll_cons r0;obtain⟨v2,vs2,d2,ds2,p2,q2,rfl,rfl,rfl,h2,r2⟩:=trodAll_cons r1;obtain⟨rfl,rfl,rfl⟩:=trodAll_nil r2;obtain rfl:args= #[v0,v1,v2]:=by cases args;simp_all
 obtain⟨rfl,rfl⟩:=trodVars_none hV;have k0:=h0;have lt0:∀x∈p0,x.block<W.heap.size:=by obtain⟨m,hm⟩:=k0;exact DataW.trod_lt m _ _ _ hm
 obtain⟨ps0,EK,hr0⟩:=G4 (d:=7) aaQ (Xq 0 31 v0 rfl rfl) h0;rw[afj]at hr0;obtain⟨T0,hT0,afk⟩:=J3 EK;rw[hT0]at hr0;have k1:=h1;have lt1:∀x∈p1,x.block<W.heap.size:=by obtain⟨m,hm⟩:=k1;exact DataW.trod_lt m _ _ _ hm
 obtain⟨XT,hs1,hr1⟩:=G4 (d:=7) aaP (Xq 1 33 v1 rfl rfl) h1;rw[afi]at hr1;obtain⟨T1,hT1,afl⟩:=R2 hs1;rw[hT1]at hr1;have k2:=h2;have lt2:∀x∈p2,x.block<W.heap.size:=by obtain⟨m,hm⟩:=k2;exact DataW.trod_lt m _ _ _ hm
 obtain⟨ps2,V7,LD⟩:=G4 (d:=7) aaO (Xq 2 37 v2 rfl rfl) h2;rw[afh]at LD;obtain⟨T2,hT2,afm⟩:=J4 V7;rw[hT2]at LD;clear hA0 YH;refine(Xp (g:=4) (M:=ec) (ps:=[T0.pv,T1.pv,Tt.BN T2]) (by kernel_rfl) (Tt.RE T0 T1 T2 afk afl afm) rfl (fun i p x hp hx=>?_)).mono fun e W'⟨he,bel⟩=>?_
 ·match i with
  |0=>simp at hp hx;subst hp;subst hx;exact hr0
  |1=>simp at hp hx;subst hp;subst hx;exact hr1
  |2=>simp at hp hx;subst hp;subst hx;exact LD
  |i+3=>simp at hp
 subst he;exact⟨_,rfl,_,_,_,[],_,[],hW',trodAll_mk1 (shut_bool Tryz.underlying4 _),(trodAll_cons_mk (Below.trod AS (by kernel_rfl) (of_decide_eq_true (by kernel_rfl)) k0 bel lt0) (trodAll_cons_mk (Below.trod AS (by kernel_rfl) (of_decide_eq_true (by kernel_rfl)) k1 bel lt1) (trodAll_cons_mk (Below.trod AS (by kernel_rfl) (of_decide_eq_true (by kernel_rfl)) k2 bel lt2) trodAll_mk0))),rfl,bel.frame _,fun h=>by cases h⟩
theorem check_holds:Rows.FeasibleCheckSaid:=OpenClaim.holds_of_wide 4 Tryz.f4 rfl rfl rfl rfl rfl rfl rfl ⟨rfl,rfl,rfl,rfl,rfl⟩ rfl rfl rfl rfl rfl (by kernel_rfl) Tryz.func4 (by kernel_rfl) (of_decide_eq_true (by kernel_rfl)) (by unfold Func.isWrapper;first|(rw[if_pos (by decide+kernel)];kernel_rfl)|(rw[if_neg (by decide+kernel)];exact⟨rfl,rfl⟩)) (fun os started H enc _=>HO os started H enc)
end Go.Proofs.YtanikidijjaohaaGreat
