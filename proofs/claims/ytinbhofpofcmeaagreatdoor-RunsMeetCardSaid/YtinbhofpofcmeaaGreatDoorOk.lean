/- Each function of the table keeps its contract. Printed by a program of the author. -/
import Derived.Test.YtinbhofpofcmeaaGreatDoorEq1
import Derived.Test.YtinbhofpofcmeaaGreatDoorEq2
import Derived.Test.YtinbhofpofcmeaaGreatDoorEq3
import Derived.Test.YtinbhofpofcmeaaGreatDoorEq4
import Derived.Test.YtinbhofpofcmeaaGreatDoorExt
namespace Go.Proofs.YtinbhofpofcmeaaGreatDoor
open Go.Ab
theorem seatOk : SeatOk S := ⟨by kernel_rfl, (fun g h hh => by cases hh), by kernel_rfl⟩
theorem ok_0 : OkTab S tab_0 := OkTab.nil S
theorem oko_0 : OkOwn S otab_0 := OkOwn.nil S
theorem ok_1 : OkTab S tab_1 := fun x hx => (List.mem_cons.1 hx).elim (fun e => e ▸ ext_130) (fun h => ok_0 x h)
theorem ok_2 : OkTab S tab_2 := fun x hx => (List.mem_cons.1 hx).elim (fun e => e ▸ ext_43) (fun h => ok_1 x h)
theorem ok_3 : OkTab S tab_3 := fun x hx => (List.mem_cons.1 hx).elim (fun e => e ▸ ext_50) (fun h => ok_2 x h)
theorem ok_4 : OkTab S tab_4 := OkTab.step seatOk ok_3 oko_0 Tryz.func34 (by kernel_rfl) (fun ps r h => by
  unfold law25_sample_M at h
  split at h
  · rw [eq_34]; exact h
  · cases h)
theorem ok_5 : OkTab S tab_5 := OkTab.step seatOk ok_4 oko_0 Tryz.func36 (by kernel_rfl) (fun ps r h => by
  unfold date_Valid_M at h
  split at h
  · rw [eq_36]; exact h
  · cases h)
theorem ok_6 : OkTab S tab_6 := OkTab.step seatOk ok_5 oko_0 Tryz.func42 (by kernel_rfl) (fun ps r h => by
  unfold ident_Valid_M at h
  split at h
  · rw [eq_42]; exact h
  · cases h)
theorem ok_7 : OkTab S tab_7 := OkTab.step seatOk ok_6 oko_0 Tryz.func17 (by kernel_rfl) (fun ps r h => by
  unfold runs_Key_M at h
  split at h
  · rw [eq_17]; exact h
  · cases h)
theorem ok_8 : OkTab S tab_8 := OkTab.step seatOk ok_7 oko_0 Tryz.func96 (by kernel_rfl) (fun ps r h => by
  unfold date_Weekday_M at h
  split at h
  · rw [eq_96]; exact h
  · cases h)
theorem ok_9 : OkTab S tab_9 := OkTab.step seatOk ok_8 oko_0 Tryz.func55 (by kernel_rfl) (fun ps r h => by
  unfold calendar_Reason_M at h
  split at h
  · rw [eq_55]; exact h
  · cases h)
theorem ok_10 : OkTab S tab_10 := OkTab.step seatOk ok_9 oko_0 Tryz.func21 (by kernel_rfl) (fun ps r h => by
  unfold calendar_Active_M at h
  split at h
  · rw [eq_21]; exact h
  · cases h)
theorem ok_11 : OkTab S tab_11 := OkTab.step seatOk ok_10 oko_0 Tryz.func114 (by kernel_rfl) (fun ps r h => by
  unfold call_Shift_M at h
  split at h
  · rw [eq_114]; exact h
  · cases h)
theorem ok_12 : OkTab S tab_12 := OkTab.step seatOk ok_11 oko_0 Tryz.func172 (by kernel_rfl) (fun ps r h => by
  unfold frequency_moved_1_M at h
  split at h
  · rw [eq_172]; exact h
  · cases h)
theorem ok_13 : OkTab S tab_13 := OkTab.step seatOk ok_12 oko_0 Tryz.func173 (by kernel_rfl) (fun ps r h => by
  unfold frequency_wide_M at h
  split at h
  · rw [eq_173]; exact h
  · cases h)
theorem ok_14 : OkTab S tab_14 := OkTab.step seatOk ok_13 oko_0 Tryz.func145 (by kernel_rfl) (fun ps r h => by
  unfold frequency_moved_M at h
  split at h
  · rw [eq_145]; exact h
  · cases h)
theorem ok_15 : OkTab S tab_15 := OkTab.step seatOk ok_14 oko_0 Tryz.func115 (by kernel_rfl) (fun ps r h => by
  unfold frequency_Calls_M at h
  split at h
  · rw [eq_115]; exact h
  · cases h)
theorem ok_16 : OkTab S tab_16 := OkTab.step seatOk ok_15 oko_0 Tryz.func98 (by kernel_rfl) (fun ps r h => by
  unfold frequency_sound_M at h
  split at h
  · rw [eq_98]; exact h
  · cases h)
theorem ok_17 : OkTab S tab_17 := OkTab.step seatOk ok_16 oko_0 Tryz.func23 (by kernel_rfl) (fun ps r h => by
  unfold frequency_Instances_M at h
  split at h
  · rw [eq_23]; exact h
  · cases h)
theorem ok_18 : OkTab S tab_18 := OkTab.step seatOk ok_17 oko_0 Tryz.func22 (by kernel_rfl) (fun ps r h => by
  unfold frequency_Repeated_M at h
  split at h
  · rw [eq_22]; exact h
  · cases h)
theorem ok_19 : OkTab S tab_19 := OkTab.step seatOk ok_18 oko_0 Tryz.func37 (by kernel_rfl) (fun ps r h => by
  unfold runs_days_M at h
  split at h
  · rw [eq_37]; exact h
  · cases h)
theorem ok_20 : OkTab S tab_20 := OkTab.step seatOk ok_19 oko_0 Tryz.func63 (by kernel_rfl) (fun ps r h => by
  unfold stop_Check_M at h
  split at h
  · rw [eq_63]; exact h
  · cases h)
theorem ok_21 : OkTab S tab_21 := OkTab.step seatOk ok_20 oko_0 Tryz.func62 (by kernel_rfl) (fun ps r h => by
  unfold timetable_Check_1_M at h
  split at h
  · rw [eq_62]; exact h
  · cases h)
theorem ok_22 : OkTab S tab_22 := OkTab.step seatOk ok_21 oko_0 Tryz.func113 (by kernel_rfl) (fun ps r h => by
  unfold product_within_M at h
  split at h
  · rw [eq_113]; exact h
  · cases h)
theorem ok_23 : OkTab S tab_23 := OkTab.step seatOk ok_22 oko_0 Tryz.func81 (by kernel_rfl) (fun ps r h => by
  unfold product_Check_M at h
  split at h
  · rw [eq_81]; exact h
  · cases h)
theorem ok_24 : OkTab S tab_24 := OkTab.step seatOk ok_23 oko_0 Tryz.func80 (by kernel_rfl) (fun ps r h => by
  unfold timetable_Check_10_M at h
  split at h
  · rw [eq_80]; exact h
  · cases h)
theorem ok_25 : OkTab S tab_25 := OkTab.step seatOk ok_24 oko_0 Tryz.func105 (by kernel_rfl) (fun ps r h => by
  unfold route_known_M at h
  split at h
  · rw [eq_105]; exact h
  · cases h)
theorem ok_26 : OkTab S tab_26 := OkTab.step seatOk ok_25 oko_0 Tryz.func65 (by kernel_rfl) (fun ps r h => by
  unfold route_Check_M at h
  split at h
  · rw [eq_65]; exact h
  · cases h)
theorem ok_27 : OkTab S tab_27 := OkTab.step seatOk ok_26 oko_0 Tryz.func64 (by kernel_rfl) (fun ps r h => by
  unfold timetable_Check_2_M at h
  split at h
  · rw [eq_64]; exact h
  · cases h)
theorem ok_28 : OkTab S tab_28 := OkTab.step seatOk ok_27 oko_0 Tryz.func67 (by kernel_rfl) (fun ps r h => by
  unfold calendar_Check_M at h
  split at h
  · rw [eq_67]; exact h
  · cases h)
theorem ok_29 : OkTab S tab_29 := OkTab.step seatOk ok_28 oko_0 Tryz.func66 (by kernel_rfl) (fun ps r h => by
  unfold timetable_Check_3_M at h
  split at h
  · rw [eq_66]; exact h
  · cases h)
theorem ok_30 : OkTab S tab_30 := OkTab.step seatOk ok_29 oko_0 Tryz.func69 (by kernel_rfl) (fun ps r h => by
  unfold calendar_CheckExceptions_M at h
  split at h
  · rw [eq_69]; exact h
  · cases h)
theorem ok_31 : OkTab S tab_31 := OkTab.step seatOk ok_30 oko_0 Tryz.func68 (by kernel_rfl) (fun ps r h => by
  unfold timetable_Check_4_M at h
  split at h
  · rw [eq_68]; exact h
  · cases h)
theorem ok_32 : OkTab S tab_32 := OkTab.step seatOk ok_31 oko_0 Tryz.func141 (by kernel_rfl) (fun ps r h => by
  unfold call_one_M at h
  split at h
  · rw [eq_141]; exact h
  · cases h)
theorem ok_33 : OkTab S tab_33 := OkTab.step seatOk ok_32 oko_0 Tryz.func106 (by kernel_rfl) (fun ps r h => by
  unfold call_Check_M at h
  split at h
  · rw [eq_106]; exact h
  · cases h)
theorem ok_34 : OkTab S tab_34 := OkTab.step seatOk ok_33 oko_0 Tryz.func71 (by kernel_rfl) (fun ps r h => by
  unfold trip_Check_M at h
  split at h
  · rw [eq_71]; exact h
  · cases h)
theorem ok_35 : OkTab S tab_35 := OkTab.step seatOk ok_34 oko_0 Tryz.func70 (by kernel_rfl) (fun ps r h => by
  unfold timetable_Check_5_M at h
  split at h
  · rw [eq_70]; exact h
  · cases h)
theorem ok_36 : OkTab S tab_36 := OkTab.step seatOk ok_35 oko_0 Tryz.func108 (by kernel_rfl) (fun ps r h => by
  unfold frequency_count_M at h
  split at h
  · rw [eq_108]; exact h
  · cases h)
theorem ok_37 : OkTab S tab_37 := OkTab.step seatOk ok_36 oko_0 Tryz.func142 (by kernel_rfl) (fun ps r h => by
  unfold frequency_last_M at h
  split at h
  · rw [eq_142]; exact h
  · cases h)
theorem ok_38 : OkTab S tab_38 := OkTab.step seatOk ok_37 oko_0 Tryz.func107 (by kernel_rfl) (fun ps r h => by
  unfold frequency_fits_M at h
  split at h
  · rw [eq_107]; exact h
  · cases h)
theorem ok_39 : OkTab S tab_39 := OkTab.step seatOk ok_38 oko_0 Tryz.func73 (by kernel_rfl) (fun ps r h => by
  unfold frequency_Check_M at h
  split at h
  · rw [eq_73]; exact h
  · cases h)
theorem ok_40 : OkTab S tab_40 := OkTab.step seatOk ok_39 oko_0 Tryz.func72 (by kernel_rfl) (fun ps r h => by
  unfold timetable_Check_6_M at h
  split at h
  · rw [eq_72]; exact h
  · cases h)
theorem ok_41 : OkTab S tab_41 := OkTab.step seatOk ok_40 oko_0 Tryz.func110 (by kernel_rfl) (fun ps r h => by
  unfold through_follows_M at h
  split at h
  · rw [eq_110]; exact h
  · cases h)
theorem ok_42 : OkTab S tab_42 := OkTab.step seatOk ok_41 oko_0 Tryz.func100 (by kernel_rfl) (fun ps r h => by
  unfold through_Next_M at h
  split at h
  · rw [eq_100]; exact h
  · cases h)
theorem ok_43 : OkTab S tab_43 := OkTab.step seatOk ok_42 oko_0 Tryz.func144 (by kernel_rfl) (fun ps r h => by
  unfold through_Chain_M at h
  split at h
  · rw [eq_144]; exact h
  · cases h)
theorem ok_44 : OkTab S tab_44 := OkTab.step seatOk ok_43 oko_0 Tryz.func111 (by kernel_rfl) (fun ps r h => by
  unfold through_leads_M at h
  split at h
  · rw [eq_111]; exact h
  · cases h)
theorem ok_45 : OkTab S tab_45 := OkTab.step seatOk ok_44 oko_0 Tryz.func143 (by kernel_rfl) (fun ps r h => by
  unfold through_pair_1_M at h
  split at h
  · rw [eq_143]; exact h
  · cases h)
theorem ok_46 : OkTab S tab_46 := OkTab.step seatOk ok_45 oko_0 Tryz.func109 (by kernel_rfl) (fun ps r h => by
  unfold through_pair_M at h
  split at h
  · rw [eq_109]; exact h
  · cases h)
theorem ok_47 : OkTab S tab_47 := OkTab.step seatOk ok_46 oko_0 Tryz.func75 (by kernel_rfl) (fun ps r h => by
  unfold through_Check_M at h
  split at h
  · rw [eq_75]; exact h
  · cases h)
theorem ok_48 : OkTab S tab_48 := OkTab.step seatOk ok_47 oko_0 Tryz.func74 (by kernel_rfl) (fun ps r h => by
  unfold timetable_Check_7_M at h
  split at h
  · rw [eq_74]; exact h
  · cases h)
theorem ok_49 : OkTab S tab_49 := OkTab.step seatOk ok_48 oko_0 Tryz.func139 (by kernel_rfl) (fun ps r h => by
  unfold through_alighting_M at h
  split at h
  · rw [eq_139]; exact h
  · cases h)
theorem ok_50 : OkTab S tab_50 := OkTab.step seatOk ok_49 oko_0 Tryz.func140 (by kernel_rfl) (fun ps r h => by
  unfold through_boarding_M at h
  split at h
  · rw [eq_140]; exact h
  · cases h)
theorem ok_51 : OkTab S tab_51 := OkTab.step seatOk ok_50 oko_0 Tryz.func101 (by kernel_rfl) (fun ps r h => by
  unfold through_Meets_M at h
  split at h
  · rw [eq_101]; exact h
  · cases h)
theorem ok_52 : OkTab S tab_52 := OkTab.step seatOk ok_51 oko_0 Tryz.func77 (by kernel_rfl) (fun ps r h => by
  unfold through_CheckGuarantees_M at h
  split at h
  · rw [eq_77]; exact h
  · cases h)
theorem ok_53 : OkTab S tab_53 := OkTab.step seatOk ok_52 oko_0 Tryz.func76 (by kernel_rfl) (fun ps r h => by
  unfold timetable_Check_8_M at h
  split at h
  · rw [eq_76]; exact h
  · cases h)
theorem ok_54 : OkTab S tab_54 := OkTab.step seatOk ok_53 oko_0 Tryz.func112 (by kernel_rfl) (fun ps r h => by
  unfold footpath_sound_M at h
  split at h
  · rw [eq_112]; exact h
  · cases h)
theorem ok_55 : OkTab S tab_55 := OkTab.step seatOk ok_54 oko_0 Tryz.func79 (by kernel_rfl) (fun ps r h => by
  unfold footpath_Check_M at h
  split at h
  · rw [eq_79]; exact h
  · cases h)
theorem ok_56 : OkTab S tab_56 := OkTab.step seatOk ok_55 oko_0 Tryz.func78 (by kernel_rfl) (fun ps r h => by
  unfold timetable_Check_9_M at h
  split at h
  · rw [eq_78]; exact h
  · cases h)
theorem ok_57 : OkTab S tab_57 := OkTab.step seatOk ok_56 oko_0 Tryz.func35 (by kernel_rfl) (fun ps r h => by
  unfold timetable_Check_M at h
  split at h
  · rw [eq_35]; exact h
  · cases h)
theorem ok_58 : OkTab S tab_58 := OkTab.step seatOk ok_57 oko_0 Tryz.func14 (by kernel_rfl) (fun ps r h => by
  unfold runs_OfDay_M at h
  split at h
  · rw [eq_14]; exact h
  · cases h)
theorem ok_59 : OkTab S tab_59 := OkTab.step seatOk ok_58 oko_0 Tryz.func49 (by kernel_rfl) (fun ps r h => by
  unfold runs_canonical_M at h
  split at h
  · rw [eq_49]; exact h
  · cases h)
theorem ok_60 : OkTab S tab_60 := OkTab.step seatOk ok_59 oko_0 Tryz.func47 (by kernel_rfl) (fun ps r h => by
  unfold runs_digits_M at h
  split at h
  · rw [eq_47]; exact h
  · cases h)
theorem ok_61 : OkTab S tab_61 := OkTab.step seatOk ok_60 oko_0 Tryz.func92 (by kernel_rfl) (fun ps r h => by
  unfold internal_stringslite_Cut_M at h
  split at h
  · rw [eq_92]; exact h
  · cases h)
theorem ok_62 : OkTab S tab_62 := OkTab.step seatOk ok_61 oko_0 Tryz.func46 (by kernel_rfl) (fun ps r h => by
  unfold strings_Cut_M at h
  split at h
  · rw [eq_46]; exact h
  · cases h)
theorem ok_63 : OkTab S tab_63 := OkTab.step seatOk ok_62 oko_0 Tryz.func131 (by kernel_rfl) (fun ps r h => by
  unfold internal_stringslite_HasPrefix_M at h
  split at h
  · rw [eq_131]; exact h
  · cases h)
theorem ok_64 : OkTab S tab_64 := OkTab.step seatOk ok_63 oko_0 Tryz.func93 (by kernel_rfl) (fun ps r h => by
  unfold internal_stringslite_CutPrefix_M at h
  split at h
  · rw [eq_93]; exact h
  · cases h)
theorem ok_65 : OkTab S tab_65 := OkTab.step seatOk ok_64 oko_0 Tryz.func48 (by kernel_rfl) (fun ps r h => by
  unfold strings_CutPrefix_M at h
  split at h
  · rw [eq_48]; exact h
  · cases h)
theorem ok_66 : OkTab S tab_66 := OkTab.step seatOk ok_65 oko_0 Tryz.func19 (by kernel_rfl) (fun ps r h => by
  unfold runs_ParseKey_M at h
  split at h
  · rw [eq_19]; exact h
  · cases h)
theorem ok_67 : OkTab S tab_67 := OkTab.step seatOk ok_66 oko_0 Tryz.func13 (by kernel_rfl) (fun ps r h => by
  unfold law25_exampleHolds_M at h
  split at h
  · rw [eq_13]; exact h
  · cases h)
theorem ok_68 : OkTab S tab_68 := OkTab.step seatOk ok_67 oko_0 Tryz.func33 (by kernel_rfl) (fun ps r h => by
  unfold ref18_Sound_M at h
  split at h
  · rw [eq_33]; exact h
  · cases h)
theorem ok_69 : OkTab S tab_69 := OkTab.step seatOk ok_68 oko_0 Tryz.func32 (by kernel_rfl) (fun ps r h => by
  unfold ref22_Few_M at h
  split at h
  · rw [eq_32]; exact h
  · cases h)
theorem ok_70 : OkTab S tab_70 := OkTab.step seatOk ok_69 oko_0 Tryz.func12 (by kernel_rfl) (fun ps r h => by
  unfold ref25_Light_M at h
  split at h
  · rw [eq_12]; exact h
  · cases h)
theorem ok_71 : OkTab S tab_71 := OkTab.step seatOk ok_70 oko_0 Tryz.func146 (by kernel_rfl) (fun ps r h => by
  unfold ref13_Find_M at h
  split at h
  · rw [eq_146]; exact h
  · cases h)
theorem ok_72 : OkTab S tab_72 := OkTab.step seatOk ok_71 oko_0 Tryz.func44 (by kernel_rfl) (fun ps r h => by
  unfold ref13_Identifier_M at h
  split at h
  · rw [eq_44]; exact h
  · cases h)
theorem ok_73 : OkTab S tab_73 := OkTab.step seatOk ok_72 oko_0 Tryz.func116 (by kernel_rfl) (fun ps r h => by
  unfold ref13_Check_M at h
  split at h
  · rw [eq_116]; exact h
  · cases h)
theorem ok_74 : OkTab S tab_74 := OkTab.step seatOk ok_73 oko_0 Tryz.func150 (by kernel_rfl) (fun ps r h => by
  unfold ref02_Valid_M at h
  split at h
  · rw [eq_150]; exact h
  · cases h)
theorem ok_75 : OkTab S tab_75 := OkTab.step seatOk ok_74 oko_0 Tryz.func149 (by kernel_rfl) (fun ps r h => by
  unfold ref05_Valid_M at h
  split at h
  · rw [eq_149]; exact h
  · cases h)
theorem ok_76 : OkTab S tab_76 := OkTab.step seatOk ok_75 oko_0 Tryz.func118 (by kernel_rfl) (fun ps r h => by
  unfold ref14_Check_M at h
  split at h
  · rw [eq_118]; exact h
  · cases h)
theorem ok_77 : OkTab S tab_77 := OkTab.step seatOk ok_76 oko_0 Tryz.func119 (by kernel_rfl) (fun ps r h => by
  unfold ref14_CheckExceptions_M at h
  split at h
  · rw [eq_119]; exact h
  · cases h)
theorem ok_78 : OkTab S tab_78 := OkTab.step seatOk ok_77 oko_0 Tryz.func147 (by kernel_rfl) (fun ps r h => by
  unfold ref15_Name_M at h
  split at h
  · rw [eq_147]; exact h
  · cases h)
theorem ok_79 : OkTab S tab_79 := OkTab.step seatOk ok_78 oko_0 Tryz.func148 (by kernel_rfl) (fun ps r h => by
  unfold ref15_mode_M at h
  split at h
  · rw [eq_148]; exact h
  · cases h)
theorem ok_80 : OkTab S tab_80 := OkTab.step seatOk ok_79 oko_0 Tryz.func117 (by kernel_rfl) (fun ps r h => by
  unfold ref15_Check_M at h
  split at h
  · rw [eq_117]; exact h
  · cases h)
theorem ok_81 : OkTab S tab_81 := OkTab.step seatOk ok_80 oko_0 Tryz.func174 (by kernel_rfl) (fun ps r h => by
  unfold ref17_Find_M at h
  split at h
  · rw [eq_174]; exact h
  · cases h)
theorem ok_82 : OkTab S tab_82 := OkTab.step seatOk ok_81 oko_0 Tryz.func175 (by kernel_rfl) (fun ps r h => by
  unfold ref17_calls_M at h
  split at h
  · rw [eq_175]; exact h
  · cases h)
theorem ok_83 : OkTab S tab_83 := OkTab.step seatOk ok_82 oko_0 Tryz.func151 (by kernel_rfl) (fun ps r h => by
  unfold ref17_one_M at h
  split at h
  · rw [eq_151]; exact h
  · cases h)
theorem ok_84 : OkTab S tab_84 := OkTab.step seatOk ok_83 oko_0 Tryz.func120 (by kernel_rfl) (fun ps r h => by
  unfold ref17_Check_M at h
  split at h
  · rw [eq_120]; exact h
  · cases h)
theorem ok_85 : OkTab S tab_85 := OkTab.step seatOk ok_84 oko_0 Tryz.func153 (by kernel_rfl) (fun ps r h => by
  unfold ref18_count_M at h
  split at h
  · rw [eq_153]; exact h
  · cases h)
theorem ok_86 : OkTab S tab_86 := OkTab.step seatOk ok_85 oko_0 Tryz.func128 (by kernel_rfl) (fun ps r h => by
  unfold ref18_Shift_M at h
  split at h
  · rw [eq_128]; exact h
  · cases h)
theorem ok_87 : OkTab S tab_87 := OkTab.step seatOk ok_86 oko_0 Tryz.func89 (by kernel_rfl) (fun ps r h => by
  unfold ref18_Calls_M at h
  split at h
  · rw [eq_89]; exact h
  · cases h)
theorem ok_88 : OkTab S tab_88 := OkTab.step seatOk ok_87 oko_0 Tryz.func127 (by kernel_rfl) (fun ps r h => by
  unfold ref18_Starts_M at h
  split at h
  · rw [eq_127]; exact h
  · cases h)
theorem ok_89 : OkTab S tab_89 := OkTab.step seatOk ok_88 oko_0 Tryz.func152 (by kernel_rfl) (fun ps r h => by
  unfold ref18_fits_M at h
  split at h
  · rw [eq_152]; exact h
  · cases h)
theorem ok_90 : OkTab S tab_90 := OkTab.step seatOk ok_89 oko_0 Tryz.func121 (by kernel_rfl) (fun ps r h => by
  unfold ref18_Check_M at h
  split at h
  · rw [eq_121]; exact h
  · cases h)
theorem ok_91 : OkTab S tab_91 := OkTab.step seatOk ok_90 oko_0 Tryz.func178 (by kernel_rfl) (fun ps r h => by
  unfold ref19_Has_M at h
  split at h
  · rw [eq_178]; exact h
  · cases h)
theorem ok_92 : OkTab S tab_92 := OkTab.step seatOk ok_91 oko_0 Tryz.func102 (by kernel_rfl) (fun ps r h => by
  unfold ref19_Next_M at h
  split at h
  · rw [eq_102]; exact h
  · cases h)
theorem ok_93 : OkTab S tab_93 := OkTab.step seatOk ok_92 oko_0 Tryz.func179 (by kernel_rfl) (fun ps r h => by
  unfold ref19_Chain_M at h
  split at h
  · rw [eq_179]; exact h
  · cases h)
theorem ok_94 : OkTab S tab_94 := OkTab.step seatOk ok_93 oko_0 Tryz.func176 (by kernel_rfl) (fun ps r h => by
  unfold ref19_in_M at h
  split at h
  · rw [eq_176]; exact h
  · cases h)
theorem ok_95 : OkTab S tab_95 := OkTab.step seatOk ok_94 oko_0 Tryz.func177 (by kernel_rfl) (fun ps r h => by
  unfold ref19_repeated_M at h
  split at h
  · rw [eq_177]; exact h
  · cases h)
theorem ok_96 : OkTab S tab_96 := OkTab.step seatOk ok_95 oko_0 Tryz.func154 (by kernel_rfl) (fun ps r h => by
  unfold ref19_one_M at h
  split at h
  · rw [eq_154]; exact h
  · cases h)
theorem ok_97 : OkTab S tab_97 := OkTab.step seatOk ok_96 oko_0 Tryz.func122 (by kernel_rfl) (fun ps r h => by
  unfold ref19_Check_M at h
  split at h
  · rw [eq_122]; exact h
  · cases h)
theorem ok_98 : OkTab S tab_98 := OkTab.step seatOk ok_97 oko_0 Tryz.func104 (by kernel_rfl) (fun ps r h => by
  unfold ref19_Meets_M at h
  split at h
  · rw [eq_104]; exact h
  · cases h)
theorem ok_99 : OkTab S tab_99 := OkTab.step seatOk ok_98 oko_0 Tryz.func155 (by kernel_rfl) (fun ps r h => by
  unfold ref19_guarantee_M at h
  split at h
  · rw [eq_155]; exact h
  · cases h)
theorem ok_100 : OkTab S tab_100 := OkTab.step seatOk ok_99 oko_0 Tryz.func123 (by kernel_rfl) (fun ps r h => by
  unfold ref19_CheckGuarantees_M at h
  split at h
  · rw [eq_123]; exact h
  · cases h)
theorem ok_101 : OkTab S tab_101 := OkTab.step seatOk ok_100 oko_0 Tryz.func156 (by kernel_rfl) (fun ps r h => by
  unfold ref20_valid_M at h
  split at h
  · rw [eq_156]; exact h
  · cases h)
theorem ok_102 : OkTab S tab_102 := OkTab.step seatOk ok_101 oko_0 Tryz.func124 (by kernel_rfl) (fun ps r h => by
  unfold ref20_Check_M at h
  split at h
  · rw [eq_124]; exact h
  · cases h)
theorem ok_103 : OkTab S tab_103 := OkTab.step seatOk ok_102 oko_0 Tryz.func157 (by kernel_rfl) (fun ps r h => by
  unfold ref21_within_M at h
  split at h
  · rw [eq_157]; exact h
  · cases h)
theorem ok_104 : OkTab S tab_104 := OkTab.step seatOk ok_103 oko_0 Tryz.func158 (by kernel_rfl) (fun ps r h => by
  unfold ref21_Right_M at h
  split at h
  · rw [eq_158]; exact h
  · cases h)
theorem ok_105 : OkTab S tab_105 := OkTab.step seatOk ok_104 oko_0 Tryz.func125 (by kernel_rfl) (fun ps r h => by
  unfold ref21_Check_M at h
  split at h
  · rw [eq_125]; exact h
  · cases h)
theorem ok_106 : OkTab S tab_106 := OkTab.step seatOk ok_105 oko_0 Tryz.func84 (by kernel_rfl) (fun ps r h => by
  unfold ref22_part_M at h
  split at h
  · rw [eq_84]; exact h
  · cases h)
theorem ok_107 : OkTab S tab_107 := OkTab.step seatOk ok_106 oko_0 Tryz.func38 (by kernel_rfl) (fun ps r h => by
  unfold ref22_Check_M at h
  split at h
  · rw [eq_38]; exact h
  · cases h)
theorem ok_108 : OkTab S tab_108 := OkTab.step seatOk ok_107 oko_0 Tryz.func159 (by kernel_rfl) (fun ps r h => by
  unfold ref02_Weekday_M at h
  split at h
  · rw [eq_159]; exact h
  · cases h)
theorem ok_109 : OkTab S tab_109 := OkTab.step seatOk ok_108 oko_0 Tryz.func126 (by kernel_rfl) (fun ps r h => by
  unfold ref14_Reason_M at h
  split at h
  · rw [eq_126]; exact h
  · cases h)
theorem ok_110 : OkTab S tab_110 := OkTab.step seatOk ok_109 oko_0 Tryz.func85 (by kernel_rfl) (fun ps r h => by
  unfold ref14_Active_M at h
  split at h
  · rw [eq_85]; exact h
  · cases h)
theorem ok_111 : OkTab S tab_111 := OkTab.step seatOk ok_110 oko_0 Tryz.func88 (by kernel_rfl) (fun ps r h => by
  unfold ref18_Instances_M at h
  split at h
  · rw [eq_88]; exact h
  · cases h)
theorem ok_112 : OkTab S tab_112 := OkTab.step seatOk ok_111 oko_0 Tryz.func86 (by kernel_rfl) (fun ps r h => by
  unfold ref18_Repeated_M at h
  split at h
  · rw [eq_86]; exact h
  · cases h)
theorem ok_113 : OkTab S tab_113 := OkTab.step seatOk ok_112 oko_0 Tryz.func87 (by kernel_rfl) (fun ps r h => by
  unfold ref25_run_M at h
  split at h
  · rw [eq_87]; exact h
  · cases h)
theorem ok_114 : OkTab S tab_114 := OkTab.step seatOk ok_113 oko_0 Tryz.func40 (by kernel_rfl) (fun ps r h => by
  unfold ref25_Day_M at h
  split at h
  · rw [eq_40]; exact h
  · cases h)
theorem ok_115 : OkTab S tab_115 := OkTab.step seatOk ok_114 oko_0 Tryz.func39 (by kernel_rfl) (fun ps r h => by
  unfold ref25_ValidDay_M at h
  split at h
  · rw [eq_39]; exact h
  · cases h)
theorem ok_116 : OkTab S tab_116 := OkTab.step seatOk ok_115 oko_0 Tryz.func15 (by kernel_rfl) (fun ps r h => by
  unfold ref25_OfDay_M at h
  split at h
  · rw [eq_15]; exact h
  · cases h)
theorem ok_117 : OkTab S tab_117 := OkTab.step seatOk ok_116 oko_0 Tryz.func90 (by kernel_rfl) (fun ps r h => by
  unfold ref18_SameCalls_M at h
  split at h
  · rw [eq_90]; exact h
  · cases h)
theorem ok_118 : OkTab S tab_118 := OkTab.step seatOk ok_117 oko_0 Tryz.func41 (by kernel_rfl) (fun ps r h => by
  unfold ref25_SameRun_M at h
  split at h
  · rw [eq_41]; exact h
  · cases h)
theorem ok_119 : OkTab S tab_119 := OkTab.step seatOk ok_118 oko_0 Tryz.func28 (by kernel_rfl) (fun ps r h => by
  unfold ref25_OfDays_M at h
  split at h
  · rw [eq_28]; exact h
  · cases h)
theorem ok_120 : OkTab S tab_120 := OkTab.step seatOk ok_119 oko_0 Tryz.func27 (by kernel_rfl) (fun ps r h => by
  unfold runs_OfDays_M at h
  split at h
  · rw [eq_27]; exact h
  · cases h)
theorem ok_121 : OkTab S tab_121 := OkTab.step seatOk ok_120 oko_0 Tryz.func103 (by kernel_rfl) (fun ps r h => by
  unfold ref25_find_M at h
  split at h
  · rw [eq_103]; exact h
  · cases h)
theorem ok_122 : OkTab S tab_122 := OkTab.step seatOk ok_121 oko_0 Tryz.func61 (by kernel_rfl) (fun ps r h => by
  unfold ref25_from_M at h
  split at h
  · rw [eq_61]; exact h
  · cases h)
theorem ok_123 : OkTab S tab_123 := OkTab.step seatOk ok_122 oko_0 Tryz.func60 (by kernel_rfl) (fun ps r h => by
  unfold ref25_known_M at h
  split at h
  · rw [eq_60]; exact h
  · cases h)
theorem ok_124 : OkTab S tab_124 := OkTab.step seatOk ok_123 oko_0 Tryz.func30 (by kernel_rfl) (fun ps r h => by
  unfold ref25_Links_M at h
  split at h
  · rw [eq_30]; exact h
  · cases h)
theorem ok_125 : OkTab S tab_125 := OkTab.step seatOk ok_124 oko_0 Tryz.func31 (by kernel_rfl) (fun ps r h => by
  unfold ref25_SameLinks_M at h
  split at h
  · rw [eq_31]; exact h
  · cases h)
theorem ok_126 : OkTab S tab_126 := OkTab.step seatOk ok_125 oko_0 Tryz.func171 (by kernel_rfl) (fun ps r h => by
  unfold call_Equal_M at h
  split at h
  · rw [eq_171]; exact h
  · cases h)
theorem ok_127 : OkTab S tab_127 := OkTab.step seatOk ok_126 oko_0 Tryz.func138 (by kernel_rfl) (fun ps r h => by
  unfold runs_same_M at h
  split at h
  · rw [eq_138]; exact h
  · cases h)
theorem ok_128 : OkTab S tab_128 := OkTab.step seatOk ok_127 oko_0 Tryz.func99 (by kernel_rfl) (fun ps r h => by
  unfold runs_operates_M at h
  split at h
  · rw [eq_99]; exact h
  · cases h)
theorem ok_129 : OkTab S tab_129 := OkTab.step seatOk ok_128 oko_0 Tryz.func58 (by kernel_rfl) (fun ps r h => by
  unfold runs_index_M at h
  split at h
  · rw [eq_58]; exact h
  · cases h)
theorem ok_130 : OkTab S tab_130 := OkTab.step seatOk ok_129 oko_0 Tryz.func59 (by kernel_rfl) (fun ps r h => by
  unfold runs_of_M at h
  split at h
  · rw [eq_59]; exact h
  · cases h)
theorem ok_131 : OkTab S tab_131 := OkTab.step seatOk ok_130 oko_0 Tryz.func29 (by kernel_rfl) (fun ps r h => by
  unfold runs_Links_M at h
  split at h
  · rw [eq_29]; exact h
  · cases h)
theorem ok_132 : OkTab S tab_132 := OkTab.step seatOk ok_131 oko_0 Tryz.func10 (by kernel_rfl) (fun ps r h => by
  unfold law25_RunsLinks_M at h
  split at h
  · rw [eq_10]; exact h
  · cases h)
theorem ok_133 : OkTab S tab_133 := OkTab.step seatOk ok_132 oko_0 Tryz.func11 (by kernel_rfl) (fun ps r h => by
  unfold law25_RunsMeet_M at h
  split at h
  · rw [eq_11]; exact h
  · cases h)
end Go.Proofs.YtinbhofpofcmeaaGreatDoor
