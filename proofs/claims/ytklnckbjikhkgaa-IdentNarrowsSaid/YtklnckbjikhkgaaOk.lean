/- Each function of the table keeps its contract. Printed by a program of the author. -/
import Derived.Test.YtklnckbjikhkgaaEq1
import Derived.Test.YtklnckbjikhkgaaEq2
import Derived.Test.YtklnckbjikhkgaaEq3
import Derived.Test.YtklnckbjikhkgaaEq4
import Derived.Test.YtklnckbjikhkgaaLays
import Derived.Test.YtklnckbjikhkgaaAbSortOk
namespace Go.Proofs.Ytklnckbjikhkgaa
open Go.Ab
theorem seatOk0 : SeatOk S0 := ⟨by kernel_rfl, (fun g h hh => by cases hh), by kernel_rfl⟩
theorem ok0_0 : OkTab S0 tab_0 := OkTab.nil S0
theorem oko0_0 : OkOwn S0 otab_0 := OkOwn.nil S0
theorem ok0_1 : OkTab S0 tab_1 := OkTab.step seatOk0 ok0_0 oko0_0 Try.func15 (by kernel_rfl) (fun ps r h => by
  unfold ident_Compare_M at h
  split at h
  · rw [eq_15]; exact h
  · cases h)
theorem ok0_2 : OkTab S0 tab_2 := OkTab.step seatOk0 ok0_1 oko0_0 Try.func38 (by kernel_rfl) (fun ps r h => by
  unfold ident_New_1_M at h
  split at h
  · rw [eq_38]; exact h
  · cases h)
theorem clo_ok (g : Nat) (M : List PV → Option PV) (h : clo g = some M) : SoundF S.P S.glob g M := by
  unfold clo at h
  cases e : Nat.beq g 38 with
  | true =>
    rw [e] at h
    have := Nat.eq_of_beq_eq_true e
    subst this
    cases h
    exact ok0_2 (38, ident_New_1_M) (look_mem (by kernel_rfl))
  | false => rw [e] at h; cases h
theorem seatOk : SeatOk S := ⟨by kernel_rfl, (fun g h hh R args f m k r hr => by
  have hh : (bif Nat.beq g 37 then some (sortHook clo) else none) = some h := hh
  cases e : Nat.beq g 37 with
  | true =>
    rw [e] at hh
    have := Nat.eq_of_beq_eq_true e
    subst this
    cases hh
    exact sortHook_ok tryLays rfl ⟨Try.f37, _, Try.func37, rfl, by kernel_rfl⟩ clo_ok hr
  | false => rw [e] at hh; cases hh), by kernel_rfl⟩
theorem ok_2 : OkTab S tab_2 := fun x hx => ok0_2 x hx
theorem oko_0 : OkOwn S otab_0 := OkOwn.nil S
theorem ok_3 : OkTab S tab_3 := OkTab.step seatOk ok_2 oko_0 Try.func12 (by kernel_rfl) (fun ps r h => by
  unfold ident_Valid_M at h
  split at h
  · rw [eq_12]; exact h
  · cases h)
theorem ok_4 : OkTab S tab_4 := OkTab.step seatOk ok_3 oko_0 Try.func21 (by kernel_rfl) (fun ps r h => by
  unfold ident_Table_Find_M at h
  split at h
  · rw [eq_21]; exact h
  · cases h)
theorem ok_5 : OkTab S tab_5 := OkTab.step seatOk ok_4 oko_0 Try.func24 (by kernel_rfl) (fun ps r h => by
  unfold ident_Table_Len_M at h
  split at h
  · rw [eq_24]; exact h
  · cases h)
theorem ok_6 : OkTab S tab_6 := OkTab.step seatOk ok_5 oko_0 Try.func23 (by kernel_rfl) (fun ps r h => by
  unfold ident_Table_Name_M at h
  split at h
  · rw [eq_23]; exact h
  · cases h)
theorem ok_7 : OkTab S tab_7 := OkTab.step seatOk ok_6 oko_0 Try.func35 (by kernel_rfl) (fun ps r h => by
  unfold strings_HasPrefix_M at h
  split at h
  · rw [eq_35]; exact h
  · cases h)
theorem oko_1 : OkOwn S otab_1 := OkOwn.step seatOk ok_7 oko_0 Try.func28 (by kernel_rfl) (fun ps r h => by
  unfold ident_Table_Prefix_M at h
  split at h
  · rw [eq_28]; exact h
  · cases h)
theorem oko_2 : OkOwn S otab_2 := OkOwn.step seatOk ok_7 oko_1 Try.func33 (by kernel_rfl) (fun ps r h => by
  unfold slices_Clone_int_int_M at h
  split at h
  · rw [eq_33]; exact h
  · cases h)
theorem oko_3 : OkOwn S otab_3 := OkOwn.step seatOk ok_7 oko_2 Try.func26 (by kernel_rfl) (fun ps r h => by
  unfold ident_Table_Sorted_M at h
  split at h
  · rw [eq_26]; exact h
  · cases h)
theorem ok_8 : OkTab S tab_8 := OkTab.step seatOk ok_7 oko_3 Try.func18 (by kernel_rfl) (fun ps r h => by
  unfold ident_Unique_M at h
  split at h
  · rw [eq_18]; exact h
  · cases h)
theorem ok_9 : OkTab S tab_9 := OkTab.step seatOk ok_8 oko_3 Try.func25 (by kernel_rfl) (fun ps r h => by
  unfold law05_same_M at h
  split at h
  · rw [eq_25]; exact h
  · cases h)
theorem oko_4 : OkOwn S otab_4 := OkOwn.step seatOk ok_9 oko_3 Try.func36 (by kernel_rfl) (fun ps r h => by
  unfold slices_Clone_string_string_M at h
  split at h
  · rw [eq_36]; exact h
  · cases h)
theorem ok_10 : OkTab S tab_10 := OkTab.step seatOk ok_9 oko_4 Try.func14 (by kernel_rfl) (fun ps r h => by
  unfold law05_exampleHolds_M at h
  split at h
  · rw [eq_14]; exact h
  · cases h)
theorem ok_11 : OkTab S tab_11 := OkTab.step seatOk ok_10 oko_4 Try.func13 (by kernel_rfl) (fun ps r h => by
  unfold ref05_Valid_M at h
  split at h
  · rw [eq_13]; exact h
  · cases h)
theorem ok_12 : OkTab S tab_12 := OkTab.step seatOk ok_11 oko_4 Try.func3 (by kernel_rfl) (fun ps r h => by
  unfold law05_IdentValids_M at h
  split at h
  · rw [eq_3]; exact h
  · cases h)
theorem ok_13 : OkTab S tab_13 := OkTab.step seatOk ok_12 oko_4 Try.func16 (by kernel_rfl) (fun ps r h => by
  unfold ref05_Compare_M at h
  split at h
  · rw [eq_16]; exact h
  · cases h)
theorem ok_14 : OkTab S tab_14 := OkTab.step seatOk ok_13 oko_4 Try.func4 (by kernel_rfl) (fun ps r h => by
  unfold law05_IdentCompares_M at h
  split at h
  · rw [eq_4]; exact h
  · cases h)
theorem ok_15 : OkTab S tab_15 := OkTab.step seatOk ok_14 oko_4 Try.func17 (by kernel_rfl) (fun ps r h => by
  unfold law05_small_M at h
  split at h
  · rw [eq_17]; exact h
  · cases h)
theorem ok_16 : OkTab S tab_16 := OkTab.step seatOk ok_15 oko_4 Try.func22 (by kernel_rfl) (fun ps r h => by
  unfold ref05_Find_M at h
  split at h
  · rw [eq_22]; exact h
  · cases h)
theorem ok_17 : OkTab S tab_17 := OkTab.step seatOk ok_16 oko_4 Try.func19 (by kernel_rfl) (fun ps r h => by
  unfold ref05_Unique_M at h
  split at h
  · rw [eq_19]; exact h
  · cases h)
theorem ok_18 : OkTab S tab_18 := OkTab.step seatOk ok_17 oko_4 Try.func5 (by kernel_rfl) (fun ps r h => by
  unfold law05_IdentUniques_M at h
  split at h
  · rw [eq_5]; exact h
  · cases h)
theorem ok_19 : OkTab S tab_19 := OkTab.step seatOk ok_18 oko_4 Try.func6 (by kernel_rfl) (fun ps r h => by
  unfold law05_IdentFinds_M at h
  split at h
  · rw [eq_6]; exact h
  · cases h)
theorem ok_20 : OkTab S tab_20 := OkTab.step seatOk ok_19 oko_4 Try.func34 (by kernel_rfl) (fun ps r h => by
  unfold ref05_Begins_M at h
  split at h
  · rw [eq_34]; exact h
  · cases h)
theorem ok_21 : OkTab S tab_21 := OkTab.step seatOk ok_20 oko_4 Try.func27 (by kernel_rfl) (fun ps r h => by
  unfold ref05_Prefix_M at h
  split at h
  · rw [eq_27]; exact h
  · cases h)
theorem ok_22 : OkTab S tab_22 := OkTab.step seatOk ok_21 oko_4 Try.func7 (by kernel_rfl) (fun ps r h => by
  unfold law05_IdentSections_M at h
  split at h
  · rw [eq_7]; exact h
  · cases h)
theorem ok_23 : OkTab S tab_23 := OkTab.step seatOk ok_22 oko_4 Try.func8 (by kernel_rfl) (fun ps r h => by
  unfold law05_IdentOrders_M at h
  split at h
  · rw [eq_8]; exact h
  · cases h)
theorem ok_24 : OkTab S tab_24 := OkTab.step seatOk ok_23 oko_4 Try.func30 (by kernel_rfl) (fun ps r h => by
  unfold law05_rises_M at h
  split at h
  · rw [eq_30]; exact h
  · cases h)
theorem ok_25 : OkTab S tab_25 := OkTab.step seatOk ok_24 oko_4 Try.func9 (by kernel_rfl) (fun ps r h => by
  unfold law05_IdentTable_M at h
  split at h
  · rw [eq_9]; exact h
  · cases h)
theorem ok_26 : OkTab S tab_26 := OkTab.step seatOk ok_25 oko_4 Try.func10 (by kernel_rfl) (fun ps r h => by
  unfold law05_IdentNils_M at h
  split at h
  · rw [eq_10]; exact h
  · cases h)
theorem ok_27 : OkTab S tab_27 := OkTab.step seatOk ok_26 oko_4 Try.func31 (by kernel_rfl) (fun ps r h => by
  unfold law05_section_M at h
  split at h
  · rw [eq_31]; exact h
  · cases h)
theorem ok_28 : OkTab S tab_28 := OkTab.step seatOk ok_27 oko_4 Try.func11 (by kernel_rfl) (fun ps r h => by
  unfold law05_IdentNarrows_M at h
  split at h
  · rw [eq_11]; exact h
  · cases h)
end Go.Proofs.Ytklnckbjikhkgaa
