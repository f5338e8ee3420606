/- For every timetable and every warning whose bulk is at most 1048576 the statement LintTexts holds: the call returns true, and both read behind the call as they read before. Condition: the bulk. -/
import Derived.Test.YtnbhhepiekhbjaaOk
import Derived.Test.YtnbhhepiekhbjaaShp
import Derived.Test.YtnbhhepiekhbjaaLxA
import Derived.Test.YtnbhhepiekhbjaaTtMono
import Derived.Test.YtnbhhepiekhbjaaRows
import Derived.JoinedCond
namespace Go.Proofs.Ytnbhhepiekhbjaa
open Go.ChangeShapes Go.WideShapes Go.ChangeAt Go.RowKit Go.Ab

theorem own24 : ownKnob Try.prog.godebug = none := by kernel_rfl
theorem laidOut24 : laidOutB Try.prog = true := by kernel_rfl
theorem plainT24 : plainT Try.prog 8 35 = true := by kernel_rfl
theorem aggT24 : isAggT Try.prog 35 = true := by kernel_rfl
theorem plainW24 : plainT Try.prog 8 37 = true := by kernel_rfl
theorem aggW24 : isAggT Try.prog 37 = true := by kernel_rfl
set_option maxRecDepth 100000 in
theorem shp_W {M : Nat} {ps : List PV} (h : ShpM M Try.prog 8 37 ps) : ∃ w : Tt.Warn, mkE true ps = w.pv := by
  replace h := Tt.shp_struct (d := 7) Try.underlying37 h; simp only [ShpF] at h
  obtain ⟨a0, r0, rfl, _, h0, a1, r1, rfl, _, h1, a2, r2, rfl, _, h2, rfl⟩ := h
  obtain ⟨x0, rfl, o0⟩ := Tt.shp_int Try.underlying3 h0
  obtain ⟨x1, rfl, o1⟩ := Tt.shp_int Try.underlying3 h1
  obtain ⟨x2, rfl, o2⟩ := Tt.shp_int Try.underlying3 h2
  exact ⟨⟨x0, x1, x2⟩, rfl⟩
mutual
theorem blk_le {H : Type} : ∀ d : DataW H, blk d ≤ Rows.uptoBulk d
  | .lit l => by cases l <;> simp [blk, Rows.uptoBulk]
  | .nil => by simp [blk, Rows.uptoBulk]
  | .ptr d => by simp [blk, Rows.uptoBulk]
  | .slice es sp => by have := blkL_le es; simp only [blk, Rows.uptoBulk]; omega
  | .agg ps => by have := blkL_le ps; simp only [blk, Rows.uptoBulk]; omega
  | .iface _ d => by simp [blk, Rows.uptoBulk]
  | .map e => by simp [blk, Rows.uptoBulk]
  | .held h => by simp [blk, Rows.uptoBulk]
theorem blkL_le {H : Type} : ∀ l : List (DataW H), blkL l ≤ Rows.uptoBulkAll l
  | [] => by simp [blkL, Rows.uptoBulkAll]
  | d :: r => by have := blk_le d; have := blkL_le r; simp only [blkL, Rows.uptoBulkAll]; omega
end
theorem ids_short {T : Tt.Timetable} (h : T.OkM 1048576) : Tt.IdsOk T := ⟨fun x hx => (h.stops.2 x hx).id, fun x hx => (h.routes.2 x hx).id, fun x hx => (h.cals.2 x hx).id, fun x hx => (h.trips.2 x hx).id⟩
/-- a law, called -/
theorem run_law {g : Nat} {M : List PV → Option PV} (hl : Ab.look tab_73 g = some M) {W : World} {xs : Array Value} {ps : List PV} (hM : M ps = some (.bool true)) (hn : ps.length = xs.size) (hr : ∀ (i : Nat) p x, ps[i]? = some p → xs[i]? = some x → RepPV Try.prog (heapOf W) p x) :
    Calls Try.prog g xs W fun e W' => e = .returned (.bool true) ∧ Below W.heap.size W W' := by
  have hs := ok_73 (g, M) (look_mem hl)
  refine (hs.2 ps (.bool true) hM W (heapOf W) xs (fun _ _ h => h) (fun g cs h => by cases h) hn hr).mono ?_
  rintro e w' ⟨y, rfl, hb, hy⟩
  cases hy
  exact ⟨rfl, hb.toBelow⟩
set_option maxRecDepth 100000 in
theorem texts_contract (H : Type) (enc : TypeId × Value → H) (W : World) (base : Nat) (args : Array Value) (ds gs : List (DataW H)) (before : List MemPlace)
    (hval0 : ∀ (j : Nat) t v, Try.f3.params[j]? = some t → args[j]? = some v → Value.okWide Try.prog W .any base t v)
    (hW : DataW.Whole enc Try.prog Try.f3.params.toList Rows.lintTextsSpec.vars false W args.toList ds gs before) (hk : Rows.uptoSmall H (ds ++ gs) = true) :
    Calls Try.prog 3 args W fun e W' => ∃ v, e = .returned v ∧ Rows.lintTextsSpec.post enc Try.prog Try.f3 false true false false W args v W' := by
  have hval : ∀ (j : Nat) t v, Try.f3.params[j]? = some t → args[j]? = some v → Value.okWide Try.prog W .any base t v := hval0
  have hW' := hW
  obtain ⟨p, q, hA0, hV, rfl, hfz, hnd⟩ := hW
  have hA : DataW.TrodAll enc Try.prog W 0 (fun _ => true) true Try.f3.params.toList args.toList ds p := hA0
  rw [Try.params3] at hA hval
  obtain ⟨v0, vs0, d0, ds0, p0, q0, hargs, rfl, rfl, h0, r0⟩ := trodAll_cons hA
  obtain ⟨v1, vs1, d1, ds1, p1, q1, rfl, rfl, rfl, h1, r1⟩ := trodAll_cons r0
  obtain ⟨rfl, rfl, rfl⟩ := trodAll_nil r1
  obtain rfl : args = #[v0, v1] := by cases args; simp_all
  obtain ⟨rfl, rfl⟩ := trodVars_none hV
  have hb : Rows.uptoBulkAll [d0, d1] ≤ 1048576 := of_decide_eq_true hk
  simp only [Rows.uptoBulkAll] at hb
  have hb0 : blk d0 ≤ 1048576 := by have := blk_le d0; omega
  have hb1 : blk d1 ≤ 1048576 := by have := blk_le d1; omega
  have k0 := h0
  have lt0 : ∀ x ∈ p0, x.block < W.heap.size := by obtain ⟨m, hm⟩ := k0; exact DataW.trod_lt m _ _ _ hm
  obtain ⟨ps0, hs0, hr0⟩ := arg_repM (M := 1048576) (d := 7) plainT24 (hval 0 35 v0 rfl rfl) h0 (.inr hb0)
  rw [aggT24] at hr0
  obtain ⟨T0, hT0, hOk0⟩ := shp_Timetable hs0
  rw [hT0] at hr0
  have k1 := h1
  have lt1 : ∀ x ∈ p1, x.block < W.heap.size := by obtain ⟨m, hm⟩ := k1; exact DataW.trod_lt m _ _ _ hm
  obtain ⟨ps1, hs1, hr1⟩ := arg_repM (M := 1048576) (d := 7) plainW24 (hval 1 37 v1 rfl rfl) h1 (.inr hb1)
  rw [aggW24] at hr1
  obtain ⟨w1, hT1⟩ := shp_W hs1
  rw [hT1] at hr1
  clear hA0 hval0
  refine (run_law (g := 3) (M := law24_LintTexts_M) (ps := [T0.pv, w1.pv]) (by kernel_rfl) (Tt.texts_law T0 (Tt.Timetable.OkM.mono (by decide) hOk0) (ids_short hOk0) w1) rfl (fun i p x hp hx => ?_)).mono fun e W' ⟨he, bel⟩ => ?_
  · match i with
    | 0 => simp at hp hx; subst hp; subst hx; exact hr0
    | 1 => simp at hp hx; subst hp; subst hx; exact hr1
    | i + 2 => simp at hp
  subst he
  exact ⟨_, rfl, _, _, _, [], _, [], hW', trodAll_mk1 (shut_bool Try.underlying4 _), (trodAll_cons_mk (Below.trod laidOut24 (by kernel_rfl) (of_decide_eq_true (by kernel_rfl)) k0 bel lt0) (trodAll_cons_mk (Below.trod laidOut24 (by kernel_rfl) (of_decide_eq_true (by kernel_rfl)) k1 bel lt1) trodAll_mk0)), rfl, bel.frame _, fun h => by cases h⟩
set_option maxRecDepth 100000 in
theorem texts_lifted (os : Os) (started : os.Started) (H : Type) (enc : TypeId × Value → H) (F : Stop.Interp) :
    ReturnsInHanded {} Try.checked os 3 .any ((Rows.OpenSpec.upto Rows.lintTextsSpec).pre6 enc Try.prog Try.f3 Rows.lintTextsUptoRow.domain false) (((Rows.OpenSpec.upto Rows.lintTextsSpec).at F).post enc Try.prog Try.f3 false true false false) := by
  refine returnsInHanded_of_cond (C := Try.checked) (s := Rows.OpenSpec.upto Rows.lintTextsSpec) (k := Rows.uptoSmall) rfl own24 started (by kernel_rfl) Try.func3
    (OpenSpec.witness (enc := enc) (C := Try.checked) (s := Rows.OpenSpec.upto Rows.lintTextsSpec) (k := Rows.uptoSmall) rfl false ⟨#[], #[.agg #[.slice none 0 0, .slice none 0 0, .slice none 0 0, .slice none 0 0, .slice none 0 0, .slice none 0 0, .slice none 0 0, .slice none 0 0, .slice none 0 0, .slice none 0 0, .int .i64 0, .int .i64 0, .int .i64 0], .agg #[.int .i64 0, .int .i64 0, .int .i64 0]], []⟩ 8 (by kernel_rfl) (by kernel_rfl) (by kernel_rfl)
      (x := ([.agg [.nil, .nil, .nil, .nil, .nil, .nil, .nil, .nil, .nil, .agg [.nil, .lit (.int .i64 0), .lit (.int .i64 0), .lit (.int .i64 0)]], .agg [.lit (.int .i64 0), .lit (.int .i64 0), .lit (.int .i64 0)]], [], [])) (by kernel_rfl) rfl (by kernel_rfl)) ?_
  intro W base args ds gs before hval hW _ hk _
  exact texts_contract H enc W base args ds gs before hval hW hk

theorem texts_holds : Rows.LintTextsUptoSaid :=
  OpenClaim.holds_of_cond 3 Try.f3 rfl rfl rfl rfl rfl rfl rfl ⟨rfl, rfl, rfl, rfl, rfl⟩ rfl rfl rfl rfl rfl (by kernel_rfl) Try.func3 (by kernel_rfl)
    (of_decide_eq_true (by kernel_rfl)) (by unfold Func.isWrapper; first | (rw [if_pos (by decide +kernel)]; kernel_rfl) | (rw [if_neg (by decide +kernel)]; exact ⟨rfl, rfl⟩))
    (fun os started H enc _ F => texts_lifted os started H enc F)
end Go.Proofs.Ytnbhhepiekhbjaa
