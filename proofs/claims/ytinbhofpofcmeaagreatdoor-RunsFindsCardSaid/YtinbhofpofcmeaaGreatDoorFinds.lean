/- For every list of runs and every name the statement RunsFinds holds: the call returns true, and the input reads behind the call as it read before. The listed variables are tied to the program. -/
import Derived.Test.YtinbhofpofcmeaaGreatDoorFrm
import Derived.Test.YtinbhofpofcmeaaGreatDoorOk
import Derived.Test.YtinbhofpofcmeaaGreatDoorRnS
import Derived.Test.YtinbhofpofcmeaaGreatDoorCards
namespace Go.Proofs.YtinbhofpofcmeaaGreatDoor
open Go.ChangeShapes Go.WideShapes Go.ChangeAt Go.RowKit Go.Ab

/-- a law, called -/
theorem run_law {g : Nat} {M : List PV → Option PV} (hl : Ab.look tab_138 g = some M) {W : World} (hL : laidMet Tryz.prog laid5 W) {xs : Array Value} {ps : List PV} (hM : M ps = some (.bool true)) (hn : ps.length = xs.size) (hr : ∀ (i : Nat) p x, ps[i]? = some p → xs[i]? = some x → RepPV Tryz.prog (heapOf W) p x) :
    Calls Tryz.prog g xs W fun e W' => e = .returned (.bool true) ∧ Below W.heap.size W W' := by
  have hs := ok_138 (g, M) (look_mem hl)
  refine (hs.2 ps (.bool true) hM W (heapOf W) xs (fun _ _ h => h) (gl_of_laid hL) hn hr).mono ?_
  rintro e w' ⟨y, rfl, hb, hy⟩
  cases hy
  exact ⟨rfl, hb.toBelow⟩

set_option maxRecDepth 100000
theorem finds_lifted (os : Os) (started : os.Started) (H : Type) (enc : TypeId × Value → H) :
    ReturnsInHanded {} Tryz.checked os 7 .any (fun w args => (Rows.runsFindsSpec.pre enc Tryz.prog Tryz.f7 Rows.runsFindsRow.domain false w args ∧ laidMet Tryz.prog laid5 w) ∧ sizedMet enc Tryz.prog Tryz.f7 (OpenSpec.ofChange Rows.runsFindsSpec) false w args)
      (Rows.runsFindsSpec.post enc Tryz.prog Tryz.f7 false true false false) := by
  refine returnsInHanded_of_change_and (C := Tryz.checked) (X := fun w _ => laidMet Tryz.prog laid5 w) (fun _ _ _ hh h => h.of_heap hh) own25 started (by kernel_rfl) Tryz.func7
    (ChangeSpec.witness_at (enc := enc) (C := Tryz.checked) (os := os) (X := fun w _ => laidMet Tryz.prog laid5 w) false (laidWorld os) #[.slice none 0 0, .agg #[.string ByteArray.empty, .int .i64 0, .int .i64 0]] 8 rfl (by kernel_rfl) (by kernel_rfl) (by kernel_rfl) (by kernel_rfl) (by kernel_rfl) (laidWorld_met os _)) ?_
  intro W base args ds gs before hval0 hW _ _ hL _
  have hval : ∀ (j : Nat) t v, Tryz.f7.params[j]? = some t → args[j]? = some v → Value.okWide Tryz.prog W .any base t v := hval0
  have hW' := hW
  obtain ⟨p, q, hA0, hV, rfl, hfz, hnd⟩ := hW
  have hA : DataW.TrodAll enc Tryz.prog W 0 (fun _ => true) true Tryz.f7.params.toList args.toList ds p := hA0
  rw [Tryz.params7] at hA hval
  obtain ⟨v0, vs0, d0, ds0, p0, q0, hargs, rfl, rfl, h0, r0⟩ := trodAll_cons hA
  obtain ⟨v1, vs1, d1, ds1, p1, q1, rfl, rfl, rfl, h1, r1⟩ := trodAll_cons r0
  obtain ⟨rfl, rfl, rfl⟩ := trodAll_nil r1
  obtain rfl : args = #[v0, v1] := by cases args; simp_all
  obtain ⟨rfl, rfl⟩ := trodVars_none hV
  have k0 := h0
  have lt0 : ∀ x ∈ p0, x.block < W.heap.size := by obtain ⟨m, hm⟩ := k0; exact DataW.trod_lt m _ _ _ hm
  obtain ⟨ps0, hs0, hr0⟩ := arg_rep (d := 7) plainL25 (hval 0 38 v0 rfl rfl) h0
  rw [aggL25] at hr0
  obtain ⟨a0, rfl, w0⟩ := shp_Runs hs0
  rw [show mkE false [PV.rs 8 (a0.map Tt.Run.pv)] = .rs 8 (a0.map Tt.Run.pv) from rfl] at hr0
  have k1 := h1
  have lt1 : ∀ x ∈ p1, x.block < W.heap.size := by obtain ⟨m, hm⟩ := k1; exact DataW.trod_lt m _ _ _ hm
  obtain ⟨ps1, hs1, hr1⟩ := arg_rep (d := 7) plainN25 (hval 1 67 v1 rfl rfl) h1
  rw [aggN25] at hr1
  obtain ⟨a1, b1, c1, hT1, w1⟩ := shp_Name hs1
  rw [hT1] at hr1
  clear hA0 hval0
  refine (run_law (g := 7) (M := law25_RunsFinds_M) (ps := [.rs 8 (a0.map Tt.Run.pv), .agg [.str a1, .int .i64 b1, .int .i64 c1]]) (by kernel_rfl) hL (Tt.finds_law a0 a1 b1 c1 w0.1) rfl (fun i p x hp hx => ?_)).mono fun e W' ⟨he, bel⟩ => ?_
  · match i with
    | 0 => simp at hp hx; subst hp; subst hx; exact hr0
    | 1 => simp at hp hx; subst hp; subst hx; exact hr1
    | i + 2 => simp at hp
  subst he
  exact ⟨_, rfl, _, _, _, [], _, [], hW', trodAll_mk1 (shut_bool Tryz.underlying4 _), (trodAll_cons_mk (Below.trod laidOut25 (by kernel_rfl) (of_decide_eq_true (by kernel_rfl)) k0 bel lt0) (trodAll_cons_mk (Below.trod laidOut25 (by kernel_rfl) (of_decide_eq_true (by kernel_rfl)) k1 bel lt1) trodAll_mk0)), rfl, bel.frame _, fun h => by cases h⟩

theorem finds_row : Rows.RunsFindsSaid :=
  OpenClaim.holds_of_wide 7 Tryz.f7 rfl rfl rfl rfl rfl rfl rfl ⟨rfl, rfl, rfl, rfl, rfl⟩ rfl rfl rfl rfl rfl (by kernel_rfl) Tryz.func7 (by kernel_rfl)
    (of_decide_eq_true (by kernel_rfl)) (by unfold Func.isWrapper; first | (rw [if_pos (by decide +kernel)]; kernel_rfl) | (rw [if_neg (by decide +kernel)]; exact ⟨rfl, rfl⟩))
    (fun os started H enc _ => finds_lifted os started H enc)
theorem finds_holds : Rows.RunsFindsCardSaid :=
  Claim7.holds_tied_plain_at .later [] [.data, .data, .data, .sentinel, .sentinel] true (true, "52be1df692ecca0e4e5f533600feff515799a76a876e94abe34ae70c46ed7d34") true
    finds_row (fun _ h => by cases h) (by kernel_rfl) (fun _ h => by cases h) runsFinds_row_tie rfl ⟨rfl, rfl⟩ (by kernel_rfl) rfl
    (fun f fn hf hfn => by
      obtain rfl : f = 7 := Option.some.inj ((show Tryz.prog.funcNamed "transit/transitlaw25.RunsFinds" = some 7 by kernel_rfl).symm.trans hf) |>.symm
      obtain rfl : fn = Tryz.f7 := (Option.some.inj (Tryz.func7.symm.trans hfn)).symm
      exact ⟨by kernel_rfl, fun j t ht => by
        rw [Tryz.params7] at ht
        match j with
        | 0 => simp at ht; subst ht; exact (show Tryz.prog.wantsStandIn 38 = false by kernel_rfl)
        | 1 => simp at ht; subst ht; exact (show Tryz.prog.wantsStandIn 67 = false by kernel_rfl)
        | j + 2 => simp at ht⟩)
    (by kernel_rfl)
end Go.Proofs.YtinbhofpofcmeaaGreatDoor
