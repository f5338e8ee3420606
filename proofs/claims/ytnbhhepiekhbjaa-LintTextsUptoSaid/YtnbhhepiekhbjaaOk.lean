/- Each function of the table keeps its contract. Printed by a program of the author. -/
import Derived.Test.YtnbhhepiekhbjaaEq1
import Derived.Test.YtnbhhepiekhbjaaEq2
import Derived.Test.YtnbhhepiekhbjaaEq3
import Derived.Test.YtnbhhepiekhbjaaEq4
namespace Go.Proofs.Ytnbhhepiekhbjaa
open Go.Ab
theorem seatOk : SeatOk S := ⟨by kernel_rfl, (fun g h hh => by cases hh), by kernel_rfl⟩
theorem ok_0 : OkTab S tab_0 := OkTab.nil S
theorem oko_0 : OkOwn S otab_0 := OkOwn.nil S
theorem ok_1 : OkTab S tab_1 := OkTab.step seatOk ok_0 oko_0 Try.func10 (by kernel_rfl) (fun ps r h => by
  unfold law24_example_M at h
  split at h
  · rw [eq_10]; exact h
  · cases h)
theorem ok_2 : OkTab S tab_2 := OkTab.step seatOk ok_1 oko_0 Try.func13 (by kernel_rfl) (fun ps r h => by
  unfold law24_to_M at h
  split at h
  · rw [eq_13]; exact h
  · cases h)
theorem ok_3 : OkTab S tab_3 := OkTab.step seatOk ok_2 oko_0 Try.func9 (by kernel_rfl) (fun ps r h => by
  unfold lint_Text_1_M at h
  split at h
  · rw [eq_9]; exact h
  · cases h)
theorem ok_4 : OkTab S tab_4 := OkTab.step seatOk ok_3 oko_0 Try.func5 (by kernel_rfl) (fun ps r h => by
  unfold lint_Text_M at h
  split at h
  · rw [eq_5]; exact h
  · cases h)
theorem ok_5 : OkTab S tab_5 := OkTab.step seatOk ok_4 oko_0 Try.func20 (by kernel_rfl) (fun ps r h => by
  unfold lint_calendars_M at h
  split at h
  · rw [eq_20]; exact h
  · cases h)
theorem ok_6 : OkTab S tab_6 := OkTab.step seatOk ok_5 oko_0 Try.func52 (by kernel_rfl) (fun ps r h => by
  unfold date_Valid_M at h
  split at h
  · rw [eq_52]; exact h
  · cases h)
theorem ok_7 : OkTab S tab_7 := OkTab.step seatOk ok_6 oko_0 Try.func77 (by kernel_rfl) (fun ps r h => by
  unfold date_Weekday_M at h
  split at h
  · rw [eq_77]; exact h
  · cases h)
theorem ok_8 : OkTab S tab_8 := OkTab.step seatOk ok_7 oko_0 Try.func74 (by kernel_rfl) (fun ps r h => by
  unfold calendar_Reason_M at h
  split at h
  · rw [eq_74]; exact h
  · cases h)
theorem ok_9 : OkTab S tab_9 := OkTab.step seatOk ok_8 oko_0 Try.func64 (by kernel_rfl) (fun ps r h => by
  unfold calendar_Active_M at h
  split at h
  · rw [eq_64]; exact h
  · cases h)
theorem ok_10 : OkTab S tab_10 := OkTab.step seatOk ok_9 oko_0 Try.func46 (by kernel_rfl) (fun ps r h => by
  unfold calendar_Next_M at h
  split at h
  · rw [eq_46]; exact h
  · cases h)
theorem ok_11 : OkTab S tab_11 := OkTab.step seatOk ok_10 oko_0 Try.func21 (by kernel_rfl) (fun ps r h => by
  unfold lint_idle_M at h
  split at h
  · rw [eq_21]; exact h
  · cases h)
theorem ok_12 : OkTab S tab_12 := OkTab.step seatOk ok_11 oko_0 Try.func22 (by kernel_rfl) (fun ps r h => by
  unfold lint_overtaking_M at h
  split at h
  · rw [eq_22]; exact h
  · cases h)
theorem ok_13 : OkTab S tab_13 := OkTab.step seatOk ok_12 oko_0 Try.func47 (by kernel_rfl) (fun ps r h => by
  unfold lint_overtaking_1_M at h
  split at h
  · rw [eq_47]; exact h
  · cases h)
theorem ok_14 : OkTab S tab_14 := OkTab.step seatOk ok_13 oko_0 Try.func19 (by kernel_rfl) (fun ps r h => by
  unfold lint_routes_M at h
  split at h
  · rw [eq_19]; exact h
  · cases h)
theorem ok_15 : OkTab S tab_15 := OkTab.step seatOk ok_14 oko_0 Try.func18 (by kernel_rfl) (fun ps r h => by
  unfold lint_stops_M at h
  split at h
  · rw [eq_18]; exact h
  · cases h)
theorem ok_16 : OkTab S tab_16 := OkTab.step seatOk ok_15 oko_0 Try.func24 (by kernel_rfl) (fun ps r h => by
  unfold lint_unpaid_M at h
  split at h
  · rw [eq_24]; exact h
  · cases h)
theorem ok_17 : OkTab S tab_17 := OkTab.step seatOk ok_16 oko_0 Try.func23 (by kernel_rfl) (fun ps r h => by
  unfold lint_unreachable_M at h
  split at h
  · rw [eq_23]; exact h
  · cases h)
theorem ok_18 : OkTab S tab_18 := OkTab.step seatOk ok_17 oko_0 Try.func50 (by kernel_rfl) (fun ps r h => by
  unfold ident_Valid_M at h
  split at h
  · rw [eq_50]; exact h
  · cases h)
theorem ok_19 : OkTab S tab_19 := OkTab.step seatOk ok_18 oko_0 Try.func26 (by kernel_rfl) (fun ps r h => by
  unfold stop_Check_M at h
  split at h
  · rw [eq_26]; exact h
  · cases h)
theorem ok_20 : OkTab S tab_20 := OkTab.step seatOk ok_19 oko_0 Try.func25 (by kernel_rfl) (fun ps r h => by
  unfold timetable_Check_1_M at h
  split at h
  · rw [eq_25]; exact h
  · cases h)
theorem ok_21 : OkTab S tab_21 := OkTab.step seatOk ok_20 oko_0 Try.func62 (by kernel_rfl) (fun ps r h => by
  unfold product_within_M at h
  split at h
  · rw [eq_62]; exact h
  · cases h)
theorem ok_22 : OkTab S tab_22 := OkTab.step seatOk ok_21 oko_0 Try.func44 (by kernel_rfl) (fun ps r h => by
  unfold product_Check_M at h
  split at h
  · rw [eq_44]; exact h
  · cases h)
theorem ok_23 : OkTab S tab_23 := OkTab.step seatOk ok_22 oko_0 Try.func43 (by kernel_rfl) (fun ps r h => by
  unfold timetable_Check_10_M at h
  split at h
  · rw [eq_43]; exact h
  · cases h)
theorem ok_24 : OkTab S tab_24 := OkTab.step seatOk ok_23 oko_0 Try.func51 (by kernel_rfl) (fun ps r h => by
  unfold route_known_M at h
  split at h
  · rw [eq_51]; exact h
  · cases h)
theorem ok_25 : OkTab S tab_25 := OkTab.step seatOk ok_24 oko_0 Try.func28 (by kernel_rfl) (fun ps r h => by
  unfold route_Check_M at h
  split at h
  · rw [eq_28]; exact h
  · cases h)
theorem ok_26 : OkTab S tab_26 := OkTab.step seatOk ok_25 oko_0 Try.func27 (by kernel_rfl) (fun ps r h => by
  unfold timetable_Check_2_M at h
  split at h
  · rw [eq_27]; exact h
  · cases h)
theorem ok_27 : OkTab S tab_27 := OkTab.step seatOk ok_26 oko_0 Try.func30 (by kernel_rfl) (fun ps r h => by
  unfold calendar_Check_M at h
  split at h
  · rw [eq_30]; exact h
  · cases h)
theorem ok_28 : OkTab S tab_28 := OkTab.step seatOk ok_27 oko_0 Try.func29 (by kernel_rfl) (fun ps r h => by
  unfold timetable_Check_3_M at h
  split at h
  · rw [eq_29]; exact h
  · cases h)
theorem ok_29 : OkTab S tab_29 := OkTab.step seatOk ok_28 oko_0 Try.func32 (by kernel_rfl) (fun ps r h => by
  unfold calendar_CheckExceptions_M at h
  split at h
  · rw [eq_32]; exact h
  · cases h)
theorem ok_30 : OkTab S tab_30 := OkTab.step seatOk ok_29 oko_0 Try.func31 (by kernel_rfl) (fun ps r h => by
  unfold timetable_Check_4_M at h
  split at h
  · rw [eq_31]; exact h
  · cases h)
theorem ok_31 : OkTab S tab_31 := OkTab.step seatOk ok_30 oko_0 Try.func66 (by kernel_rfl) (fun ps r h => by
  unfold call_one_M at h
  split at h
  · rw [eq_66]; exact h
  · cases h)
theorem ok_32 : OkTab S tab_32 := OkTab.step seatOk ok_31 oko_0 Try.func53 (by kernel_rfl) (fun ps r h => by
  unfold call_Check_M at h
  split at h
  · rw [eq_53]; exact h
  · cases h)
theorem ok_33 : OkTab S tab_33 := OkTab.step seatOk ok_32 oko_0 Try.func34 (by kernel_rfl) (fun ps r h => by
  unfold trip_Check_M at h
  split at h
  · rw [eq_34]; exact h
  · cases h)
theorem ok_34 : OkTab S tab_34 := OkTab.step seatOk ok_33 oko_0 Try.func33 (by kernel_rfl) (fun ps r h => by
  unfold timetable_Check_5_M at h
  split at h
  · rw [eq_33]; exact h
  · cases h)
theorem ok_35 : OkTab S tab_35 := OkTab.step seatOk ok_34 oko_0 Try.func56 (by kernel_rfl) (fun ps r h => by
  unfold frequency_count_M at h
  split at h
  · rw [eq_56]; exact h
  · cases h)
theorem ok_36 : OkTab S tab_36 := OkTab.step seatOk ok_35 oko_0 Try.func78 (by kernel_rfl) (fun ps r h => by
  unfold frequency_moved_1_M at h
  split at h
  · rw [eq_78]; exact h
  · cases h)
theorem ok_37 : OkTab S tab_37 := OkTab.step seatOk ok_36 oko_0 Try.func79 (by kernel_rfl) (fun ps r h => by
  unfold frequency_wide_M at h
  split at h
  · rw [eq_79]; exact h
  · cases h)
theorem ok_38 : OkTab S tab_38 := OkTab.step seatOk ok_37 oko_0 Try.func75 (by kernel_rfl) (fun ps r h => by
  unfold frequency_moved_M at h
  split at h
  · rw [eq_75]; exact h
  · cases h)
theorem ok_39 : OkTab S tab_39 := OkTab.step seatOk ok_38 oko_0 Try.func67 (by kernel_rfl) (fun ps r h => by
  unfold frequency_Calls_M at h
  split at h
  · rw [eq_67]; exact h
  · cases h)
theorem ok_40 : OkTab S tab_40 := OkTab.step seatOk ok_39 oko_0 Try.func68 (by kernel_rfl) (fun ps r h => by
  unfold frequency_last_M at h
  split at h
  · rw [eq_68]; exact h
  · cases h)
theorem ok_41 : OkTab S tab_41 := OkTab.step seatOk ok_40 oko_0 Try.func55 (by kernel_rfl) (fun ps r h => by
  unfold frequency_fits_M at h
  split at h
  · rw [eq_55]; exact h
  · cases h)
theorem ok_42 : OkTab S tab_42 := OkTab.step seatOk ok_41 oko_0 Try.func54 (by kernel_rfl) (fun ps r h => by
  unfold frequency_sound_M at h
  split at h
  · rw [eq_54]; exact h
  · cases h)
theorem ok_43 : OkTab S tab_43 := OkTab.step seatOk ok_42 oko_0 Try.func36 (by kernel_rfl) (fun ps r h => by
  unfold frequency_Check_M at h
  split at h
  · rw [eq_36]; exact h
  · cases h)
theorem ok_44 : OkTab S tab_44 := OkTab.step seatOk ok_43 oko_0 Try.func35 (by kernel_rfl) (fun ps r h => by
  unfold timetable_Check_6_M at h
  split at h
  · rw [eq_35]; exact h
  · cases h)
theorem ok_45 : OkTab S tab_45 := OkTab.step seatOk ok_44 oko_0 Try.func58 (by kernel_rfl) (fun ps r h => by
  unfold through_follows_M at h
  split at h
  · rw [eq_58]; exact h
  · cases h)
theorem ok_46 : OkTab S tab_46 := OkTab.step seatOk ok_45 oko_0 Try.func76 (by kernel_rfl) (fun ps r h => by
  unfold through_Next_M at h
  split at h
  · rw [eq_76]; exact h
  · cases h)
theorem ok_47 : OkTab S tab_47 := OkTab.step seatOk ok_46 oko_0 Try.func71 (by kernel_rfl) (fun ps r h => by
  unfold through_Chain_M at h
  split at h
  · rw [eq_71]; exact h
  · cases h)
theorem ok_48 : OkTab S tab_48 := OkTab.step seatOk ok_47 oko_0 Try.func59 (by kernel_rfl) (fun ps r h => by
  unfold through_leads_M at h
  split at h
  · rw [eq_59]; exact h
  · cases h)
theorem ok_49 : OkTab S tab_49 := OkTab.step seatOk ok_48 oko_0 Try.func70 (by kernel_rfl) (fun ps r h => by
  unfold frequency_Repeated_M at h
  split at h
  · rw [eq_70]; exact h
  · cases h)
theorem ok_50 : OkTab S tab_50 := OkTab.step seatOk ok_49 oko_0 Try.func69 (by kernel_rfl) (fun ps r h => by
  unfold through_pair_1_M at h
  split at h
  · rw [eq_69]; exact h
  · cases h)
theorem ok_51 : OkTab S tab_51 := OkTab.step seatOk ok_50 oko_0 Try.func57 (by kernel_rfl) (fun ps r h => by
  unfold through_pair_M at h
  split at h
  · rw [eq_57]; exact h
  · cases h)
theorem ok_52 : OkTab S tab_52 := OkTab.step seatOk ok_51 oko_0 Try.func38 (by kernel_rfl) (fun ps r h => by
  unfold through_Check_M at h
  split at h
  · rw [eq_38]; exact h
  · cases h)
theorem ok_53 : OkTab S tab_53 := OkTab.step seatOk ok_52 oko_0 Try.func37 (by kernel_rfl) (fun ps r h => by
  unfold timetable_Check_7_M at h
  split at h
  · rw [eq_37]; exact h
  · cases h)
theorem ok_54 : OkTab S tab_54 := OkTab.step seatOk ok_53 oko_0 Try.func72 (by kernel_rfl) (fun ps r h => by
  unfold through_alighting_M at h
  split at h
  · rw [eq_72]; exact h
  · cases h)
theorem ok_55 : OkTab S tab_55 := OkTab.step seatOk ok_54 oko_0 Try.func73 (by kernel_rfl) (fun ps r h => by
  unfold through_boarding_M at h
  split at h
  · rw [eq_73]; exact h
  · cases h)
theorem ok_56 : OkTab S tab_56 := OkTab.step seatOk ok_55 oko_0 Try.func60 (by kernel_rfl) (fun ps r h => by
  unfold through_Meets_M at h
  split at h
  · rw [eq_60]; exact h
  · cases h)
theorem ok_57 : OkTab S tab_57 := OkTab.step seatOk ok_56 oko_0 Try.func40 (by kernel_rfl) (fun ps r h => by
  unfold through_CheckGuarantees_M at h
  split at h
  · rw [eq_40]; exact h
  · cases h)
theorem ok_58 : OkTab S tab_58 := OkTab.step seatOk ok_57 oko_0 Try.func39 (by kernel_rfl) (fun ps r h => by
  unfold timetable_Check_8_M at h
  split at h
  · rw [eq_39]; exact h
  · cases h)
theorem ok_59 : OkTab S tab_59 := OkTab.step seatOk ok_58 oko_0 Try.func61 (by kernel_rfl) (fun ps r h => by
  unfold footpath_sound_M at h
  split at h
  · rw [eq_61]; exact h
  · cases h)
theorem ok_60 : OkTab S tab_60 := OkTab.step seatOk ok_59 oko_0 Try.func42 (by kernel_rfl) (fun ps r h => by
  unfold footpath_Check_M at h
  split at h
  · rw [eq_42]; exact h
  · cases h)
theorem ok_61 : OkTab S tab_61 := OkTab.step seatOk ok_60 oko_0 Try.func41 (by kernel_rfl) (fun ps r h => by
  unfold timetable_Check_9_M at h
  split at h
  · rw [eq_41]; exact h
  · cases h)
theorem ok_62 : OkTab S tab_62 := OkTab.step seatOk ok_61 oko_0 Try.func16 (by kernel_rfl) (fun ps r h => by
  unfold timetable_Check_M at h
  split at h
  · rw [eq_16]; exact h
  · cases h)
theorem ok_63 : OkTab S tab_63 := OkTab.step seatOk ok_62 oko_0 Try.func65 (by kernel_rfl) (fun ps r h => by
  unfold trip_SamePattern_M at h
  split at h
  · rw [eq_65]; exact h
  · cases h)
theorem ok_64 : OkTab S tab_64 := OkTab.step seatOk ok_63 oko_0 Try.func49 (by kernel_rfl) (fun ps r h => by
  unfold trip_Overtakes_M at h
  split at h
  · rw [eq_49]; exact h
  · cases h)
theorem ok_65 : OkTab S tab_65 := OkTab.step seatOk ok_64 oko_0 Try.func11 (by kernel_rfl) (fun ps r h => by
  unfold lint_Warnings_M at h
  split at h
  · rw [eq_11]; exact h
  · cases h)
theorem ok_66 : OkTab S tab_66 := OkTab.step seatOk ok_65 oko_0 Try.func12 (by kernel_rfl) (fun ps r h => by
  unfold ref24_Same_M at h
  split at h
  · rw [eq_12]; exact h
  · cases h)
theorem ok_67 : OkTab S tab_67 := OkTab.step seatOk ok_66 oko_0 Try.func7 (by kernel_rfl) (fun ps r h => by
  unfold law24_exampleHolds_M at h
  split at h
  · rw [eq_7]; exact h
  · cases h)
theorem ok_68 : OkTab S tab_68 := OkTab.step seatOk ok_67 oko_0 Try.func14 (by kernel_rfl) (fun ps r h => by
  unfold ref18_Sound_M at h
  split at h
  · rw [eq_14]; exact h
  · cases h)
theorem ok_69 : OkTab S tab_69 := OkTab.step seatOk ok_68 oko_0 Try.func15 (by kernel_rfl) (fun ps r h => by
  unfold ref18_count_M at h
  split at h
  · rw [eq_15]; exact h
  · cases h)
theorem ok_70 : OkTab S tab_70 := OkTab.step seatOk ok_69 oko_0 Try.func8 (by kernel_rfl) (fun ps r h => by
  unfold ref18_Many_M at h
  split at h
  · rw [eq_8]; exact h
  · cases h)
theorem ok_71 : OkTab S tab_71 := OkTab.step seatOk ok_70 oko_0 Try.func4 (by kernel_rfl) (fun ps r h => by
  unfold ref24_Large_M at h
  split at h
  · rw [eq_4]; exact h
  · cases h)
theorem ok_72 : OkTab S tab_72 := OkTab.step seatOk ok_71 oko_0 Try.func6 (by kernel_rfl) (fun ps r h => by
  unfold ref24_Text_M at h
  split at h
  · rw [eq_6]; exact h
  · cases h)
theorem ok_73 : OkTab S tab_73 := OkTab.step seatOk ok_72 oko_0 Try.func3 (by kernel_rfl) (fun ps r h => by
  unfold law24_LintTexts_M at h
  split at h
  · rw [eq_3]; exact h
  · cases h)
end Go.Proofs.Ytnbhhepiekhbjaa
