/- For every timetable and all days the statement RunsMeet holds: the call returns true, and the input reads behind the call as it read before. The listed variables are tied to the program. -/
import Derived.Test.YtinbhofpofcmeaaGreatDoorFrm
import Derived.Test.YtinbhofpofcmeaaGreatDoorOk
import Derived.Test.YtinbhofpofcmeaaGreatDoorRnQ
import Derived.Test.YtinbhofpofcmeaaGreatDoorCards
namespace Go.Proofs.YtinbhofpofcmeaaGreatDoor
open Go.ChangeShapes Go.WideShapes Go.ChangeAt Go.RowKit Go.Ab

/-- a law, called -/
theorem run_law {g : Nat} {M : List PV → Option PV} (hl : Ab.look tab_133 g = some M) {W : World} (hL : laidMet Tryz.prog laid5 W) {xs : Array Value} {ps : List PV} (hM : M ps = some (.bool true)) (hn : ps.length = xs.size) (hr : ∀ (i : Nat) p x, ps[i]? = some p → xs[i]? = some x → RepPV Tryz.prog (heapOf W) p x) :
    Calls Tryz.prog g xs W fun e W' => e = .returned (.bool true) ∧ Below W.heap.size W W' := by
  have hs := ok_133 (g, M) (look_mem hl)
  refine (hs.2 ps (.bool true) hM W (heapOf W) xs (fun _ _ h => h) (gl_of_laid hL) hn hr).mono ?_
  rintro e w' ⟨y, rfl, hb, hy⟩
  cases hy
  exact ⟨rfl, hb.toBelow⟩

set_option maxRecDepth 100000
theorem meet_lifted (os : Os) (started : os.Started) (H : Type) (enc : TypeId × Value → H) :
    ReturnsInHanded {} Tryz.checked os 11 .any (fun w args => (Rows.runsMeetSpec.pre enc Tryz.prog Tryz.f11 Rows.runsMeetRow.domain false w args ∧ laidMet Tryz.prog laid5 w) ∧ sizedMet enc Tryz.prog Tryz.f11 (OpenSpec.ofChange Rows.runsMeetSpec) false w args)
      (Rows.runsMeetSpec.post enc Tryz.prog Tryz.f11 false true false false) := by
  refine returnsInHanded_of_change_and (C := Tryz.checked) (X := fun w _ => laidMet Tryz.prog laid5 w) (fun _ _ _ hh h => h.of_heap hh) own25 started (by kernel_rfl) Tryz.func11
    (ChangeSpec.witness_at (enc := enc) (C := Tryz.checked) (os := os) (X := fun w _ => laidMet Tryz.prog laid5 w) false (laidWorld os) #[.agg #[.slice none 0 0, .slice none 0 0, .slice none 0 0, .slice none 0 0, .slice none 0 0, .slice none 0 0, .slice none 0 0, .slice none 0 0, .slice none 0 0, .slice none 0 0, .int .i64 0, .int .i64 0, .int .i64 0], .int .i64 0, .int .i64 0] 8 rfl (by kernel_rfl) (by kernel_rfl) (by kernel_rfl) (by kernel_rfl) (by kernel_rfl) (laidWorld_met os _)) ?_
  intro W base args ds gs before hval0 hW _ _ hL _
  have hval : ∀ (j : Nat) t v, Tryz.f11.params[j]? = some t → args[j]? = some v → Value.okWide Tryz.prog W .any base t v := hval0
  have hW' := hW
  obtain ⟨p, q, hA0, hV, rfl, hfz, hnd⟩ := hW
  have hA : DataW.TrodAll enc Tryz.prog W 0 (fun _ => true) true Tryz.f11.params.toList args.toList ds p := hA0
  rw [Tryz.params11] at hA hval
  obtain ⟨v0, vs0, d0, ds0, p0, q0, hargs, rfl, rfl, h0, r0⟩ := trodAll_cons hA
  obtain ⟨v1, vs1, d1, ds1, p1, q1, rfl, rfl, rfl, h1, r1⟩ := trodAll_cons r0
  obtain ⟨v2, vs2, d2, ds2, p2, q2, rfl, rfl, rfl, h2, r2⟩ := trodAll_cons r1
  obtain ⟨rfl, rfl, rfl⟩ := trodAll_nil r2
  obtain rfl : args = #[v0, v1, v2] := by cases args; simp_all
  obtain ⟨rfl, rfl⟩ := trodVars_none hV
  have k0 := h0
  have lt0 : ∀ x ∈ p0, x.block < W.heap.size := by obtain ⟨m, hm⟩ := k0; exact DataW.trod_lt m _ _ _ hm
  obtain ⟨ps0, hs0, hr0⟩ := arg_rep (d := 7) plainT25 (hval 0 35 v0 rfl rfl) h0
  rw [aggT25] at hr0
  obtain ⟨a0, hT0, w0⟩ := shp_Timetable hs0
  rw [hT0] at hr0
  obtain ⟨a1, rfl, rfl, rfl, w1⟩ := open_int Tryz.underlying3 (hval 1 3 v1 rfl rfl) h1
  have hr1 : RepPV Tryz.prog (heapOf W) (.int .i64 a1) (.int .i64 a1) := .int w1
  obtain ⟨a2, rfl, rfl, rfl, w2⟩ := open_int Tryz.underlying3 (hval 2 3 v2 rfl rfl) h2
  have hr2 : RepPV Tryz.prog (heapOf W) (.int .i64 a2) (.int .i64 a2) := .int w2
  clear hA0 hval0
  refine (run_law (g := 11) (M := law25_RunsMeet_M) (ps := [a0.pv, .int .i64 a1, .int .i64 a2]) (by kernel_rfl) hL (Tt.meet_law a0 w0 a1 a2) rfl (fun i p x hp hx => ?_)).mono fun e W' ⟨he, bel⟩ => ?_
  · match i with
    | 0 => simp at hp hx; subst hp; subst hx; exact hr0
    | 1 => simp at hp hx; subst hp; subst hx; exact hr1
    | 2 => simp at hp hx; subst hp; subst hx; exact hr2
    | i + 3 => simp at hp
  subst he
  exact ⟨_, rfl, _, _, _, [], _, [], hW', trodAll_mk1 (shut_bool Tryz.underlying4 _), (trodAll_cons_mk (Below.trod laidOut25 (by kernel_rfl) (of_decide_eq_true (by kernel_rfl)) k0 bel lt0) (trodAll_cons_mk (shut_int Tryz.underlying3 w1) (trodAll_cons_mk (shut_int Tryz.underlying3 w2) trodAll_mk0))), rfl, bel.frame _, fun h => by cases h⟩

theorem meet_row : Rows.RunsMeetSaid :=
  OpenClaim.holds_of_wide 11 Tryz.f11 rfl rfl rfl rfl rfl rfl rfl ⟨rfl, rfl, rfl, rfl, rfl⟩ rfl rfl rfl rfl rfl (by kernel_rfl) Tryz.func11 (by kernel_rfl)
    (of_decide_eq_true (by kernel_rfl)) (by unfold Func.isWrapper; first | (rw [if_pos (by decide +kernel)]; kernel_rfl) | (rw [if_neg (by decide +kernel)]; exact ⟨rfl, rfl⟩))
    (fun os started H enc _ => meet_lifted os started H enc)
theorem meet_holds : Rows.RunsMeetCardSaid :=
  Claim7.holds_tied_plain_at .later [] [.data, .data, .data, .sentinel, .sentinel] true (true, "52be1df692ecca0e4e5f533600feff515799a76a876e94abe34ae70c46ed7d34") true
    meet_row (fun _ h => by cases h) (by kernel_rfl) (fun _ h => by cases h) runsMeet_row_tie rfl ⟨rfl, rfl⟩ (by kernel_rfl) rfl
    (fun f fn hf hfn => by
      obtain rfl : f = 11 := Option.some.inj ((show Tryz.prog.funcNamed "transit/transitlaw25.RunsMeet" = some 11 by kernel_rfl).symm.trans hf) |>.symm
      obtain rfl : fn = Tryz.f11 := (Option.some.inj (Tryz.func11.symm.trans hfn)).symm
      exact ⟨by kernel_rfl, fun j t ht => by
        rw [Tryz.params11] at ht
        match j with
        | 0 => simp at ht; subst ht; exact (show Tryz.prog.wantsStandIn 35 = false by kernel_rfl)
        | 1 => simp at ht; subst ht; exact (show Tryz.prog.wantsStandIn 3 = false by kernel_rfl)
        | 2 => simp at ht; subst ht; exact (show Tryz.prog.wantsStandIn 3 = false by kernel_rfl)
        | j + 3 => simp at ht⟩)
    (by kernel_rfl)
end Go.Proofs.YtinbhofpofcmeaaGreatDoor
