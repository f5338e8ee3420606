/- Each function of the table keeps its contract. Printed by a program of the author. -/
import Derived.Test.YtacjfkmonjbcmaaEq1
import Derived.Test.YtacjfkmonjbcmaaEq2
import Derived.Test.YtacjfkmonjbcmaaEq3
import Derived.Test.YtacjfkmonjbcmaaEq4
import Derived.Test.YtacjfkmonjbcmaaLays
import Derived.Test.YtacjfkmonjbcmaaAbSortKOk
namespace Go.Proofs.Ytacjfkmonjbcmaa
open Go.Ab
theorem seatOk0 : SeatOk S0 := ⟨by kernel_rfl, (fun g h hh => by cases hh), by kernel_rfl⟩
theorem ok0_0 : OkTab S0 tab_0 := OkTab.nil S0
theorem oko0_0 : OkOwn S0 otab_0 := OkOwn.nil S0
theorem ok0_1 : OkTab S0 tab_1 := OkTab.step seatOk0 ok0_0 oko0_0 Try.func72 (by kernel_rfl) (fun ps r h => by
  unfold cmp_Compare_int_M at h
  split at h
  · rw [eq_72]; exact h
  · cases h)
theorem ok0_2 : OkTab S0 tab_2 := OkTab.step seatOk0 ok0_1 oko0_0 Try.func71 (by kernel_rfl) (fun ps r h => by
  unfold cmp_Or_int_M at h
  split at h
  · rw [eq_71]; exact h
  · cases h)
theorem ok0_3 : OkTab S0 tab_3 := OkTab.step seatOk0 ok0_2 oko0_0 Try.func70 (by kernel_rfl) (fun ps r h => by
  unfold footpath_closure_2_M at h
  split at h
  · rw [eq_70]; exact h
  · cases h)
theorem clo_ok (g : Nat) (M : List PV → Option PV) (h : clo g = some M) : SoundF S.P S.glob g M := by
  unfold clo at h
  cases e : Nat.beq g 70 with
  | true =>
    rw [e] at h
    have := Nat.eq_of_beq_eq_true e
    subst this
    cases h
    exact ok0_3 (70, footpath_closure_2_M) (look_mem (by kernel_rfl))
  | false => rw [e] at h; cases h
theorem seatOk : SeatOk S := ⟨by kernel_rfl, (fun g h hh R args f m k r hr => by
  have hh : (bif Nat.beq g 69 then some (sortHookK 4 clo) else none) = some h := hh
  cases e : Nat.beq g 69 with
  | true =>
    rw [e] at hh
    have := Nat.eq_of_beq_eq_true e
    subst this
    cases hh
    exact sortHookK_ok tryLays rfl ⟨Try.f69, _, Try.func69, rfl, by kernel_rfl⟩ Try.isAgg53 Try.sizeOf53 clo_ok hr
  | false => rw [e] at hh; cases hh), by kernel_rfl⟩
theorem ok_3 : OkTab S tab_3 := fun x hx => ok0_3 x hx
theorem oko_0 : OkOwn S otab_0 := OkOwn.nil S
theorem ok_4 : OkTab S tab_4 := OkTab.step seatOk ok_3 oko_0 Try.func18 (by kernel_rfl) (fun ps r h => by
  unfold law26_example_M at h
  split at h
  · rw [eq_18]; exact h
  · cases h)
theorem ok_5 : OkTab S tab_5 := OkTab.step seatOk ok_4 oko_0 Try.func53 (by kernel_rfl) (fun ps r h => by
  unfold network_leads_M at h
  split at h
  · rw [eq_53]; exact h
  · cases h)
theorem ok_6 : OkTab S tab_6 := OkTab.step seatOk ok_5 oko_0 Try.func22 (by kernel_rfl) (fun ps r h => by
  unfold network_of_M at h
  split at h
  · rw [eq_22]; exact h
  · cases h)
theorem ok_7 : OkTab S tab_7 := OkTab.step seatOk ok_6 oko_0 Try.func52 (by kernel_rfl) (fun ps r h => by
  unfold network_within_M at h
  split at h
  · rw [eq_52]; exact h
  · cases h)
theorem ok_8 : OkTab S tab_8 := OkTab.step seatOk ok_7 oko_0 Try.func24 (by kernel_rfl) (fun ps r h => by
  unfold network_checkLinks_M at h
  split at h
  · rw [eq_24]; exact h
  · cases h)
theorem ok_9 : OkTab S tab_9 := OkTab.step seatOk ok_8 oko_0 Try.func91 (by kernel_rfl) (fun ps r h => by
  unfold shortest_check_1_M at h
  split at h
  · rw [eq_91]; exact h
  · cases h)
theorem ok_10 : OkTab S tab_10 := OkTab.step seatOk ok_9 oko_0 Try.func77 (by kernel_rfl) (fun ps r h => by
  unfold shortest_check_M at h
  split at h
  · rw [eq_77]; exact h
  · cases h)
theorem ok_11 : OkTab S tab_11 := OkTab.step seatOk ok_10 oko_0 Try.func93 (by kernel_rfl) (fun ps r h => by
  unfold shortest_less_M at h
  split at h
  · rw [eq_93]; exact h
  · cases h)
theorem ok_12 : OkTab S tab_12 := OkTab.step seatOk ok_11 oko_0 Try.func101 (by kernel_rfl) (fun ps r h => by
  unfold heap_Heap_shortest_label_before_M at h
  split at h
  · rw [eq_101]; exact h
  · cases h)
theorem ok_13 : OkTab S tab_13 := OkTab.step seatOk ok_12 oko_0 Try.func80 (by kernel_rfl) (fun ps r h => by
  unfold shortest_labels_M at h
  split at h
  · rw [eq_80]; exact h
  · cases h)
theorem ok_14 : OkTab S tab_14 := OkTab.step seatOk ok_13 oko_0 Try.func79 (by kernel_rfl) (fun ps r h => by
  unfold shortest_lengths_M at h
  split at h
  · rw [eq_79]; exact h
  · cases h)
theorem ok_15 : OkTab S tab_15 := OkTab.step seatOk ok_14 oko_0 Try.func78 (by kernel_rfl) (fun ps r h => by
  unfold shortest_neighbors_M at h
  split at h
  · rw [eq_78]; exact h
  · cases h)
theorem ok_16 : OkTab S tab_16 := OkTab.step seatOk ok_15 oko_0 Try.func73 (by kernel_rfl) (fun ps r h => by
  unfold shortest_All_M at h
  split at h
  · rw [eq_73]; exact h
  · cases h)
theorem ok_17 : OkTab S tab_17 := OkTab.step seatOk ok_16 oko_0 Try.func67 (by kernel_rfl) (fun ps r h => by
  unfold footpath_distances_M at h
  split at h
  · rw [eq_67]; exact h
  · cases h)
theorem ok_18 : OkTab S tab_18 := OkTab.step seatOk ok_17 oko_0 Try.func65 (by kernel_rfl) (fun ps r h => by
  unfold footpath_closure_M at h
  split at h
  · rw [eq_65]; exact h
  · cases h)
theorem ok_19 : OkTab S tab_19 := OkTab.step seatOk ok_18 oko_0 Try.func64 (by kernel_rfl) (fun ps r h => by
  unfold footpath_sound_M at h
  split at h
  · rw [eq_64]; exact h
  · cases h)
theorem ok_20 : OkTab S tab_20 := OkTab.step seatOk ok_19 oko_0 Try.func55 (by kernel_rfl) (fun ps r h => by
  unfold footpath_IsClosed_M at h
  split at h
  · rw [eq_55]; exact h
  · cases h)
theorem ok_21 : OkTab S tab_21 := OkTab.step seatOk ok_20 oko_0 Try.func26 (by kernel_rfl) (fun ps r h => by
  unfold network_checkPaths_M at h
  split at h
  · rw [eq_26]; exact h
  · cases h)
theorem ok_22 : OkTab S tab_22 := OkTab.step seatOk ok_21 oko_0 Try.func63 (by kernel_rfl) (fun ps r h => by
  unfold call_one_M at h
  split at h
  · rw [eq_63]; exact h
  · cases h)
theorem ok_23 : OkTab S tab_23 := OkTab.step seatOk ok_22 oko_0 Try.func51 (by kernel_rfl) (fun ps r h => by
  unfold call_Check_M at h
  split at h
  · rw [eq_51]; exact h
  · cases h)
theorem ok_24 : OkTab S tab_24 := OkTab.step seatOk ok_23 oko_0 Try.func49 (by kernel_rfl) (fun ps r h => by
  unfold ident_Valid_M at h
  split at h
  · rw [eq_49]; exact h
  · cases h)
theorem ok_25 : OkTab S tab_25 := OkTab.step seatOk ok_24 oko_0 Try.func23 (by kernel_rfl) (fun ps r h => by
  unfold network_checkRuns_M at h
  split at h
  · rw [eq_23]; exact h
  · cases h)
theorem ok_26 : OkTab S tab_26 := OkTab.step seatOk ok_25 oko_0 Try.func21 (by kernel_rfl) (fun ps r h => by
  unfold network_first_M at h
  split at h
  · rw [eq_21]; exact h
  · cases h)
theorem ok_27 : OkTab S tab_27 := OkTab.step seatOk ok_26 oko_0 Try.func54 (by kernel_rfl) (fun ps r h => by
  unfold product_within_M at h
  split at h
  · rw [eq_54]; exact h
  · cases h)
theorem ok_28 : OkTab S tab_28 := OkTab.step seatOk ok_27 oko_0 Try.func25 (by kernel_rfl) (fun ps r h => by
  unfold product_Check_M at h
  split at h
  · rw [eq_25]; exact h
  · cases h)
theorem ok_29 : OkTab S tab_29 := OkTab.step seatOk ok_28 oko_0 Try.func50 (by kernel_rfl) (fun ps r h => by
  unfold route_known_M at h
  split at h
  · rw [eq_50]; exact h
  · cases h)
theorem ok_30 : OkTab S tab_30 := OkTab.step seatOk ok_29 oko_0 Try.func20 (by kernel_rfl) (fun ps r h => by
  unfold route_Check_M at h
  split at h
  · rw [eq_20]; exact h
  · cases h)
theorem ok_31 : OkTab S tab_31 := OkTab.step seatOk ok_30 oko_0 Try.func19 (by kernel_rfl) (fun ps r h => by
  unfold stop_Check_M at h
  split at h
  · rw [eq_19]; exact h
  · cases h)
theorem ok_32 : OkTab S tab_32 := OkTab.step seatOk ok_31 oko_0 Try.func10 (by kernel_rfl) (fun ps r h => by
  unfold network_Check_M at h
  split at h
  · rw [eq_10]; exact h
  · cases h)
theorem ok_33 : OkTab S tab_33 := OkTab.step seatOk ok_32 oko_0 Try.func12 (by kernel_rfl) (fun ps r h => by
  unfold network_Horizon_M at h
  split at h
  · rw [eq_12]; exact h
  · cases h)
theorem ok_34 : OkTab S tab_34 := OkTab.step seatOk ok_33 oko_0 Try.func9 (by kernel_rfl) (fun ps r h => by
  unfold law26_exampleHolds_M at h
  split at h
  · rw [eq_9]; exact h
  · cases h)
theorem ok_35 : OkTab S tab_35 := OkTab.step seatOk ok_34 oko_0 Try.func8 (by kernel_rfl) (fun ps r h => by
  unfold law26_light_M at h
  split at h
  · rw [eq_8]; exact h
  · cases h)
theorem oko_1 : OkOwn S otab_1 := OkOwn.step seatOk ok_35 oko_0 Try.func38 (by kernel_rfl) (fun ps r h => by
  unfold network_fresh_Call_M at h
  split at h
  · rw [eq_38]; exact h
  · cases h)
theorem oko_2 : OkOwn S otab_2 := OkOwn.step seatOk ok_35 oko_1 Try.func37 (by kernel_rfl) (fun ps r h => by
  unfold network_fresh_Footpath_M at h
  split at h
  · rw [eq_37]; exact h
  · cases h)
theorem oko_3 : OkOwn S otab_3 := OkOwn.step seatOk ok_35 oko_2 Try.func36 (by kernel_rfl) (fun ps r h => by
  unfold network_fresh_Link_M at h
  split at h
  · rw [eq_36]; exact h
  · cases h)
theorem oko_4 : OkOwn S otab_4 := OkOwn.step seatOk ok_35 oko_3 Try.func39 (by kernel_rfl) (fun ps r h => by
  unfold network_fresh_Product_M at h
  split at h
  · rw [eq_39]; exact h
  · cases h)
theorem oko_5 : OkOwn S otab_5 := OkOwn.step seatOk ok_35 oko_4 Try.func34 (by kernel_rfl) (fun ps r h => by
  unfold network_fresh_Route_M at h
  split at h
  · rw [eq_34]; exact h
  · cases h)
theorem oko_6 : OkOwn S otab_6 := OkOwn.step seatOk ok_35 oko_5 Try.func35 (by kernel_rfl) (fun ps r h => by
  unfold network_fresh_Run_M at h
  split at h
  · rw [eq_35]; exact h
  · cases h)
theorem oko_7 : OkOwn S otab_7 := OkOwn.step seatOk ok_35 oko_6 Try.func33 (by kernel_rfl) (fun ps r h => by
  unfold network_fresh_Stop_M at h
  split at h
  · rw [eq_33]; exact h
  · cases h)
theorem ok_52 : OkTab S tab_52 := OkTab.step seatOk ok_35 oko_7 Try.func41 (by kernel_rfl) (fun ps r h => by
  unfold ref26_SameFares_M at h
  split at h
  · rw [eq_41]; exact h
  · cases h)
theorem ok_53 : OkTab S tab_53 := OkTab.step seatOk ok_52 oko_7 Try.func61 (by kernel_rfl) (fun ps r h => by
  unfold ref26_SameCalls_M at h
  split at h
  · rw [eq_61]; exact h
  · cases h)
theorem ok_54 : OkTab S tab_54 := OkTab.step seatOk ok_53 oko_7 Try.func40 (by kernel_rfl) (fun ps r h => by
  unfold ref26_SameRuns_M at h
  split at h
  · rw [eq_40]; exact h
  · cases h)
theorem ok_55 : OkTab S tab_55 := OkTab.step seatOk ok_54 oko_7 Try.func15 (by kernel_rfl) (fun ps r h => by
  unfold ref26_Equal_M at h
  split at h
  · rw [eq_15]; exact h
  · cases h)
theorem ok_59 : OkTab S tab_59 := OkTab.step seatOk ok_55 oko_7 Try.func62 (by kernel_rfl) (fun ps r h => by
  unfold slices_Equal_Call_Call_M at h
  split at h
  · rw [eq_62]; exact h
  · cases h)
theorem ok_60 : OkTab S tab_60 := OkTab.step seatOk ok_59 oko_7 Try.func46 (by kernel_rfl) (fun ps r h => by
  unfold network_sameRun_M at h
  split at h
  · rw [eq_46]; exact h
  · cases h)
theorem ok_61 : OkTab S tab_61 := OkTab.step seatOk ok_60 oko_7 Try.func48 (by kernel_rfl) (fun ps r h => by
  unfold slices_Equal_Footpath_Footpath_M at h
  split at h
  · rw [eq_48]; exact h
  · cases h)
theorem ok_62 : OkTab S tab_62 := OkTab.step seatOk ok_61 oko_7 Try.func47 (by kernel_rfl) (fun ps r h => by
  unfold slices_Equal_Link_Link_M at h
  split at h
  · rw [eq_47]; exact h
  · cases h)
theorem ok_63 : OkTab S tab_63 := OkTab.step seatOk ok_62 oko_7 Try.func42 (by kernel_rfl) (fun ps r h => by
  unfold slices_Equal_Product_Product_M at h
  split at h
  · rw [eq_42]; exact h
  · cases h)
theorem ok_64 : OkTab S tab_64 := OkTab.step seatOk ok_63 oko_7 Try.func44 (by kernel_rfl) (fun ps r h => by
  unfold slices_Equal_Route_Route_M at h
  split at h
  · rw [eq_44]; exact h
  · cases h)
theorem ok_65 : OkTab S tab_65 := OkTab.step seatOk ok_64 oko_7 Try.func43 (by kernel_rfl) (fun ps r h => by
  unfold slices_Equal_Stop_Stop_M at h
  split at h
  · rw [eq_43]; exact h
  · cases h)
theorem ok_66 : OkTab S tab_66 := OkTab.step seatOk ok_65 oko_7 Try.func17 (by kernel_rfl) (fun ps r h => by
  unfold network_Equal_M at h
  split at h
  · rw [eq_17]; exact h
  · cases h)
theorem ok_67 : OkTab S tab_67 := OkTab.step seatOk ok_66 oko_7 Try.func7 (by kernel_rfl) (fun ps r h => by
  unfold law26_NetworkEqual_M at h
  split at h
  · rw [eq_7]; exact h
  · cases h)
end Go.Proofs.Ytacjfkmonjbcmaa
