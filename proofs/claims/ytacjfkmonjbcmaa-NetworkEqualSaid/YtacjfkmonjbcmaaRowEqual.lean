/- For every input the statement NetworkEqual holds: the call returns true, and the arguments read behind the call as they read before. No condition. -/
import Derived.Test.YtacjfkmonjbcmaaOk
import Derived.Test.YtacjfkmonjbcmaaShp
import Derived.Test.YtacjfkmonjbcmaaNkP2
import Derived.Test.YtacjfkmonjbcmaaRows
namespace Go.Proofs.Ytacjfkmonjbcmaa
open Go.ChangeShapes Go.WideShapes Go.ChangeAt Go.RowKit Go.Ab

theorem own22 : ownKnob Try.prog.godebug = none := by kernel_rfl
theorem laidOut22 : laidOutB Try.prog = true := by kernel_rfl
theorem plain35 : plainT Try.prog 8 31 = true := by kernel_rfl
theorem agg35 : isAggT Try.prog 31 = true := by kernel_rfl

/-- a law, called -/
theorem run_law {g : Nat} {M : List PV → Option PV} (hl : Ab.look tab_67 g = some M) {W : World} {xs : Array Value} {ps : List PV} (hM : M ps = some (.bool true)) (hn : ps.length = xs.size) (hr : ∀ (i : Nat) p x, ps[i]? = some p → xs[i]? = some x → RepPV Try.prog (heapOf W) p x) :
    Calls Try.prog g xs W fun e W' => e = .returned (.bool true) ∧ Below W.heap.size W W' := by
  have hs := ok_67 (g, M) (look_mem hl)
  refine (hs.2 ps (.bool true) hM W (heapOf W) xs (fun _ _ h => h) (fun g cs h => by cases h) hn hr).mono ?_
  rintro e w' ⟨y, rfl, hb, hy⟩
  cases hy
  exact ⟨rfl, hb.toBelow⟩
set_option maxRecDepth 100000 in
theorem equal_lifted (os : Os) (started : os.Started) (H : Type) (enc : TypeId × Value → H) :
    ReturnsInHanded {} Try.checked os 7 .any (Rows.networkEqualSpec.pre6 enc Try.prog Try.f7 Rows.networkEqualRow.domain false) (Rows.networkEqualSpec.post enc Try.prog Try.f7 false true false false) := by
  refine returnsInHanded_of_change (C := Try.checked) own22 started (by kernel_rfl) Try.func7
    (ChangeSpec.witness6 (enc := enc) (C := Try.checked) false ⟨#[], #[.agg #[.slice none 0 0, .slice none 0 0, .slice none 0 0, .slice none 0 0, .slice none 0 0, .slice none 0 0, .int .i64 0, .int .i64 0, .int .i64 0], .agg #[.slice none 0 0, .slice none 0 0, .slice none 0 0, .slice none 0 0, .slice none 0 0, .slice none 0 0, .int .i64 0, .int .i64 0, .int .i64 0]], []⟩ 8 (by kernel_rfl) (by kernel_rfl) (by kernel_rfl) (by kernel_rfl)) ?_
  intro W base args ds gs before hval0 hW hcnd _
  have hval : ∀ (j : Nat) t v, Try.f7.params[j]? = some t → args[j]? = some v → Value.okWide Try.prog W .any base t v := hval0
  have hW' := hW
  obtain ⟨p, q, hA0, hV, rfl, hfz, hnd⟩ := hW
  have hA : DataW.TrodAll enc Try.prog W 0 (fun _ => true) true Try.f7.params.toList args.toList ds p := hA0
  rw [Try.params7] at hA hval
  obtain ⟨v0, vs0, d0, ds0, p0, q0, hargs, rfl, rfl, h0, r0⟩ := trodAll_cons hA
  obtain ⟨v1, vs1, d1, ds1, p1, q1, rfl, rfl, rfl, h1, r1⟩ := trodAll_cons r0
  obtain ⟨rfl, rfl, rfl⟩ := trodAll_nil r1
  obtain rfl : args = #[v0, v1] := by cases args; simp_all
  obtain ⟨rfl, rfl⟩ := trodVars_none hV
  have k0 := h0
  have lt0 : ∀ x ∈ p0, x.block < W.heap.size := by obtain ⟨m, hm⟩ := k0; exact DataW.trod_lt m _ _ _ hm
  obtain ⟨ps0, hs0, hr0⟩ := arg_rep (d := 7) plain35 (hval 0 31 v0 rfl rfl) h0
  rw [agg35] at hr0
  obtain ⟨T0, hT0, hOk0⟩ := shp_Network hs0
  rw [hT0] at hr0
  have k1 := h1
  have lt1 : ∀ x ∈ p1, x.block < W.heap.size := by obtain ⟨m, hm⟩ := k1; exact DataW.trod_lt m _ _ _ hm
  obtain ⟨ps1, hs1, hr1⟩ := arg_rep (d := 7) plain35 (hval 1 31 v1 rfl rfl) h1
  rw [agg35] at hr1
  obtain ⟨T1, hT1, hOk1⟩ := shp_Network hs1
  rw [hT1] at hr1
  clear hA0 hval0
  refine (run_law (g := 7) (M := law26_NetworkEqual_M) (ps := [T0.pv, T1.pv]) (by kernel_rfl) (Tt.equal_law T0 T1 hOk0 hOk1) rfl (fun i p x hp hx => ?_)).mono fun e W' ⟨he, bel⟩ => ?_
  · match i with
    | 0 => simp at hp hx; subst hp; subst hx; exact hr0
    | 1 => simp at hp hx; subst hp; subst hx; exact hr1
    | i + 2 => simp at hp
  subst he
  exact ⟨_, rfl, _, _, _, [], _, [], hW', trodAll_mk1 (shut_bool Try.underlying4 _), (trodAll_cons_mk (Below.trod laidOut22 (by kernel_rfl) (of_decide_eq_true (by kernel_rfl)) k0 bel lt0) (trodAll_cons_mk (Below.trod laidOut22 (by kernel_rfl) (of_decide_eq_true (by kernel_rfl)) k1 bel lt1) trodAll_mk0)), rfl, bel.frame _, fun h => by cases h⟩

theorem equal_holds : Rows.NetworkEqualSaid :=
  OpenClaim.holds_of_wide 7 Try.f7 rfl rfl rfl rfl rfl rfl rfl ⟨rfl, rfl, rfl, rfl, rfl⟩ rfl rfl rfl rfl rfl (by kernel_rfl) Try.func7 (by kernel_rfl)
    (of_decide_eq_true (by kernel_rfl)) (by unfold Func.isWrapper; first | (rw [if_pos (by decide +kernel)]; kernel_rfl) | (rw [if_neg (by decide +kernel)]; exact ⟨rfl, rfl⟩))
    (fun os started H enc _ => equal_lifted os started H enc)
end Go.Proofs.Ytacjfkmonjbcmaa
