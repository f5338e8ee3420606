/- The shapes of this seat's types are the parts of a timetable. Printed by a program of the author. -/
import Derived.Test.YtinbhofpofcmeaaGreatDoorTab
import Derived.Test.YtinbhofpofcmeaaGreatDoorTtData
set_option maxRecDepth 100000
namespace Go.Proofs.YtinbhofpofcmeaaGreatDoor
open Go.Ab Go.Ab.Tt
theorem shp_Stop {M d : Nat} {qs : List PV} (h : ShpM M Tryz.prog (d + 2) 122 qs) : ∃ s : Stop, mkE true qs = s.pv ∧ s.OkM M := by
  replace h := shp_struct Tryz.underlying122 h; simp only [ShpF] at h
  obtain ⟨a0, r0, rfl, _, h0, a1, r1, rfl, _, h1, a2, r2, rfl, _, h2, a3, r3, rfl, _, h3, rfl⟩ := h
  obtain ⟨x0, rfl, o0⟩ := shp_str Tryz.underlying9 h0
  obtain ⟨x1, rfl, o1⟩ := shp_int Tryz.underlying3 h1
  obtain ⟨x2, rfl⟩ := shp_bool Tryz.underlying4 h2
  obtain ⟨x3, rfl, o3⟩ := shp_int Tryz.underlying3 h3
  exact ⟨⟨x0, x1, x2, x3⟩, rfl, ⟨o0, o1, o3⟩⟩
theorem shp_Route {M d : Nat} {qs : List PV} (h : ShpM M Tryz.prog (d + 2) 124 qs) : ∃ s : Route, mkE true qs = s.pv ∧ s.OkM M := by
  replace h := shp_struct Tryz.underlying124 h; simp only [ShpF] at h
  obtain ⟨a0, r0, rfl, _, h0, a1, r1, rfl, _, h1, a2, r2, rfl, _, h2, rfl⟩ := h
  obtain ⟨x0, rfl, o0⟩ := shp_str Tryz.underlying9 h0
  obtain ⟨x1, rfl, o1⟩ := shp_int Tryz.underlying3 h1
  obtain ⟨x2, rfl⟩ := shp_bool Tryz.underlying4 h2
  exact ⟨⟨x0, x1, x2⟩, rfl, ⟨o0, o1⟩⟩
theorem shp_Cal {M d : Nat} {qs : List PV} (h : ShpM M Tryz.prog (d + 3) 127 qs) : ∃ s : Cal, mkE true qs = s.pv ∧ s.OkM M := by
  replace h := shp_struct Tryz.underlying127 h; simp only [ShpF] at h
  obtain ⟨a0, r0, rfl, _, h0, a1, r1, rfl, _, h1, a8, r8, rfl, _, h8, a9, r9, rfl, _, h9, rfl⟩ := h
  obtain ⟨x0, rfl, o0⟩ := shp_str Tryz.underlying9 h0
  replace h1 := shp_array Tryz.underlying125 h1; simp only [ShpN] at h1
  obtain ⟨b0, q0, rfl, _, g0, b1, q1, rfl, _, g1, b2, q2, rfl, _, g2, b3, q3, rfl, _, g3, b4, q4, rfl, _, g4, b5, q5, rfl, _, g5, b6, q6, rfl, _, g6, rfl⟩ := h1
  obtain ⟨y0, rfl⟩ := shp_bool Tryz.underlying4 g0
  obtain ⟨y1, rfl⟩ := shp_bool Tryz.underlying4 g1
  obtain ⟨y2, rfl⟩ := shp_bool Tryz.underlying4 g2
  obtain ⟨y3, rfl⟩ := shp_bool Tryz.underlying4 g3
  obtain ⟨y4, rfl⟩ := shp_bool Tryz.underlying4 g4
  obtain ⟨y5, rfl⟩ := shp_bool Tryz.underlying4 g5
  obtain ⟨y6, rfl⟩ := shp_bool Tryz.underlying4 g6
  obtain ⟨x8, rfl, o8⟩ := shp_int Tryz.underlying3 h8
  obtain ⟨x9, rfl, o9⟩ := shp_int Tryz.underlying3 h9
  exact ⟨⟨x0, y0, y1, y2, y3, y4, y5, y6, x8, x9⟩, rfl, ⟨o0, o8, o9⟩⟩
theorem shp_Exc {M d : Nat} {qs : List PV} (h : ShpM M Tryz.prog (d + 2) 151 qs) : ∃ s : Exc, mkE true qs = s.pv ∧ s.OkM M := by
  replace h := shp_struct Tryz.underlying151 h; simp only [ShpF] at h
  obtain ⟨a0, r0, rfl, _, h0, a1, r1, rfl, _, h1, a2, r2, rfl, _, h2, rfl⟩ := h
  obtain ⟨x0, rfl, o0⟩ := shp_int Tryz.underlying3 h0
  obtain ⟨x1, rfl, o1⟩ := shp_int Tryz.underlying3 h1
  obtain ⟨x2, rfl⟩ := shp_bool Tryz.underlying4 h2
  exact ⟨⟨x0, x1, x2⟩, rfl, ⟨o0, o1⟩⟩
theorem shp_Kall {M d : Nat} {qs : List PV} (h : ShpM M Tryz.prog (d + 2) 84 qs) : ∃ s : Kall, mkE true qs = s.pv ∧ s.OkM M := by
  replace h := shp_struct Tryz.underlying84 h; simp only [ShpF] at h
  obtain ⟨a0, r0, rfl, _, h0, a1, r1, rfl, _, h1, a2, r2, rfl, _, h2, a3, r3, rfl, _, h3, a4, r4, rfl, _, h4, rfl⟩ := h
  obtain ⟨x0, rfl, o0⟩ := shp_int Tryz.underlying3 h0
  obtain ⟨x1, rfl, o1⟩ := shp_int Tryz.underlying3 h1
  obtain ⟨x2, rfl, o2⟩ := shp_int Tryz.underlying3 h2
  obtain ⟨x3, rfl⟩ := shp_bool Tryz.underlying4 h3
  obtain ⟨x4, rfl⟩ := shp_bool Tryz.underlying4 h4
  exact ⟨⟨x0, x1, x2, x3, x4⟩, rfl, ⟨o0, o1, o2⟩⟩
theorem shp_Trip {M d : Nat} {qs : List PV} (h : ShpM M Tryz.prog (d + 4) 60 qs) : ∃ s : Trip, mkE true qs = s.pv ∧ s.OkM M := by
  replace h := shp_struct Tryz.underlying60 h; simp only [ShpF] at h
  obtain ⟨a0, r0, rfl, _, h0, a1, r1, rfl, _, h1, a2, r2, rfl, _, h2, a3, r3, rfl, _, h3, a4, r4, rfl, _, h4, rfl⟩ := h
  obtain ⟨x0, rfl, o0⟩ := shp_str Tryz.underlying9 h0
  obtain ⟨x1, rfl, o1⟩ := shp_int Tryz.underlying3 h1
  obtain ⟨x2, rfl, o2⟩ := shp_int Tryz.underlying3 h2
  obtain ⟨x3, rfl⟩ := shp_bool Tryz.underlying4 h3
  obtain ⟨x4, rfl, o4, p4⟩ := shp_list (f := Kall.pv) (Q := Kall.OkM M) (c := 5) Tryz.underlying46 (by kernel_rfl) (by kernel_rfl) (fun qs h => shp_Kall h) h4
  exact ⟨⟨x0, x1, x2, x3, x4⟩, rfl, ⟨o0, o1, o2, ⟨o4, p4⟩⟩⟩
theorem shp_Freq {M d : Nat} {qs : List PV} (h : ShpM M Tryz.prog (d + 2) 86 qs) : ∃ s : Freq, mkE true qs = s.pv ∧ s.OkM M := by
  replace h := shp_struct Tryz.underlying86 h; simp only [ShpF] at h
  obtain ⟨a0, r0, rfl, _, h0, a1, r1, rfl, _, h1, a2, r2, rfl, _, h2, a3, r3, rfl, _, h3, rfl⟩ := h
  obtain ⟨x0, rfl, o0⟩ := shp_int Tryz.underlying3 h0
  obtain ⟨x1, rfl, o1⟩ := shp_int Tryz.underlying3 h1
  obtain ⟨x2, rfl, o2⟩ := shp_int Tryz.underlying3 h2
  obtain ⟨x3, rfl, o3⟩ := shp_int Tryz.underlying3 h3
  exact ⟨⟨x0, x1, x2, x3⟩, rfl, ⟨o0, o1, o2, o3⟩⟩
theorem shp_Thr {M d : Nat} {qs : List PV} (h : ShpM M Tryz.prog (d + 2) 169 qs) : ∃ s : Thr, mkE true qs = s.pv ∧ s.OkM M := by
  replace h := shp_struct Tryz.underlying169 h; simp only [ShpF] at h
  obtain ⟨a0, r0, rfl, _, h0, a1, r1, rfl, _, h1, rfl⟩ := h
  obtain ⟨x0, rfl, o0⟩ := shp_int Tryz.underlying3 h0
  obtain ⟨x1, rfl, o1⟩ := shp_int Tryz.underlying3 h1
  exact ⟨⟨x0, x1⟩, rfl, ⟨o0, o1⟩⟩
theorem shp_Guar {M d : Nat} {qs : List PV} (h : ShpM M Tryz.prog (d + 2) 157 qs) : ∃ s : Guar, mkE true qs = s.pv ∧ s.OkM M := by
  replace h := shp_struct Tryz.underlying157 h; simp only [ShpF] at h
  obtain ⟨a0, r0, rfl, _, h0, a1, r1, rfl, _, h1, a2, r2, rfl, _, h2, rfl⟩ := h
  obtain ⟨x0, rfl, o0⟩ := shp_int Tryz.underlying3 h0
  obtain ⟨x1, rfl, o1⟩ := shp_int Tryz.underlying3 h1
  obtain ⟨x2, rfl, o2⟩ := shp_int Tryz.underlying3 h2
  exact ⟨⟨x0, x1, x2⟩, rfl, ⟨o0, o1, o2⟩⟩
theorem shp_Path {M d : Nat} {qs : List PV} (h : ShpM M Tryz.prog (d + 2) 202 qs) : ∃ s : Path, mkE true qs = s.pv ∧ s.OkM M := by
  replace h := shp_struct Tryz.underlying202 h; simp only [ShpF] at h
  obtain ⟨a0, r0, rfl, _, h0, a1, r1, rfl, _, h1, a2, r2, rfl, _, h2, a3, r3, rfl, _, h3, rfl⟩ := h
  obtain ⟨x0, rfl, o0⟩ := shp_int Tryz.underlying3 h0
  obtain ⟨x1, rfl, o1⟩ := shp_int Tryz.underlying3 h1
  obtain ⟨x2, rfl, o2⟩ := shp_int Tryz.underlying3 h2
  obtain ⟨x3, rfl⟩ := shp_bool Tryz.underlying4 h3
  exact ⟨⟨x0, x1, x2, x3⟩, rfl, ⟨o0, o1, o2⟩⟩
theorem shp_Prdt {M d : Nat} {qs : List PV} (h : ShpM M Tryz.prog (d + 2) 177 qs) : ∃ s : Prdt, mkE true qs = s.pv ∧ s.OkM M := by
  replace h := shp_struct Tryz.underlying177 h; simp only [ShpF] at h
  obtain ⟨a0, r0, rfl, _, h0, a1, r1, rfl, _, h1, a2, r2, rfl, _, h2, a3, r3, rfl, _, h3, a4, r4, rfl, _, h4, a5, r5, rfl, _, h5, rfl⟩ := h
  obtain ⟨x0, rfl, o0⟩ := shp_str Tryz.underlying9 h0
  obtain ⟨x1, rfl, o1⟩ := shp_int Tryz.underlying3 h1
  obtain ⟨x2, rfl, o2⟩ := shp_int Tryz.underlying3 h2
  obtain ⟨x3, rfl, o3⟩ := shp_int Tryz.underlying3 h3
  obtain ⟨x4, rfl, o4⟩ := shp_int Tryz.underlying3 h4
  obtain ⟨x5, rfl, o5⟩ := shp_int Tryz.underlying3 h5
  exact ⟨⟨x0, x1, x2, x3, x4, x5⟩, rfl, ⟨o0, o1, o2, o3, o4, o5⟩⟩
theorem shp_Timetable {M : Nat} {ps : List PV} (h : ShpM M Tryz.prog 8 35 ps) : ∃ s : Timetable, mkE true ps = s.pv ∧ s.OkM M := by
  replace h := shp_struct (d := 7) Tryz.underlying35 h; simp only [ShpF] at h
  obtain ⟨a0, r0, rfl, _, h0, a1, r1, rfl, _, h1, a2, r2, rfl, _, h2, a3, r3, rfl, _, h3, a4, r4, rfl, _, h4, a5, r5, rfl, _, h5, a6, r6, rfl, _, h6, a7, r7, rfl, _, h7, a8, r8, rfl, _, h8, a9, r9, rfl, _, h9, rfl⟩ := h
  obtain ⟨x0, rfl, o0, p0⟩ := shp_list (f := Stop.pv) (Q := Stop.OkM M) (c := 4) Tryz.underlying22 (by kernel_rfl) (by kernel_rfl) (fun qs h => shp_Stop h) h0
  obtain ⟨x1, rfl, o1, p1⟩ := shp_list (f := Route.pv) (Q := Route.OkM M) (c := 3) Tryz.underlying23 (by kernel_rfl) (by kernel_rfl) (fun qs h => shp_Route h) h1
  obtain ⟨x2, rfl, o2, p2⟩ := shp_list (f := Cal.pv) (Q := Cal.OkM M) (c := 10) Tryz.underlying24 (by kernel_rfl) (by kernel_rfl) (fun qs h => shp_Cal h) h2
  obtain ⟨x3, rfl, o3, p3⟩ := shp_list (f := Exc.pv) (Q := Exc.OkM M) (c := 3) Tryz.underlying25 (by kernel_rfl) (by kernel_rfl) (fun qs h => shp_Exc h) h3
  obtain ⟨x4, rfl, o4, p4⟩ := shp_list (f := Trip.pv) (Q := Trip.OkM M) (c := 5) Tryz.underlying26 (by kernel_rfl) (by kernel_rfl) (fun qs h => shp_Trip h) h4
  obtain ⟨x5, rfl, o5, p5⟩ := shp_list (f := Freq.pv) (Q := Freq.OkM M) (c := 4) Tryz.underlying27 (by kernel_rfl) (by kernel_rfl) (fun qs h => shp_Freq h) h5
  obtain ⟨x6, rfl, o6, p6⟩ := shp_list (f := Thr.pv) (Q := Thr.OkM M) (c := 2) Tryz.underlying28 (by kernel_rfl) (by kernel_rfl) (fun qs h => shp_Thr h) h6
  obtain ⟨x7, rfl, o7, p7⟩ := shp_list (f := Guar.pv) (Q := Guar.OkM M) (c := 3) Tryz.underlying29 (by kernel_rfl) (by kernel_rfl) (fun qs h => shp_Guar h) h7
  obtain ⟨x8, rfl, o8, p8⟩ := shp_list (f := Path.pv) (Q := Path.OkM M) (c := 4) Tryz.underlying30 (by kernel_rfl) (by kernel_rfl) (fun qs h => shp_Path h) h8
  replace h9 := shp_struct (d := 6) Tryz.underlying33 h9; simp only [ShpF] at h9
  obtain ⟨b0, q0, rfl, _, g0, b1, q1, rfl, _, g1, b2, q2, rfl, _, g2, b3, q3, rfl, _, g3, rfl⟩ := h9
  obtain ⟨x9, rfl, o9, p9⟩ := shp_list (f := Prdt.pv) (Q := Prdt.OkM M) (c := 6) Tryz.underlying31 (by kernel_rfl) (by kernel_rfl) (fun qs h => shp_Prdt h) g0
  obtain ⟨z1, rfl, k1⟩ := shp_int Tryz.underlying3 g1
  obtain ⟨z2, rfl, k2⟩ := shp_int Tryz.underlying3 g2
  obtain ⟨z3, rfl, k3⟩ := shp_int Tryz.underlying3 g3
  exact ⟨⟨x0, x1, x2, x3, x4, x5, x6, x7, x8, x9, z1, z2, z3⟩, rfl, ⟨⟨o0, p0⟩, ⟨o1, p1⟩, ⟨o2, p2⟩, ⟨o3, p3⟩, ⟨o4, p4⟩, ⟨o5, p5⟩, ⟨o6, p6⟩, ⟨o7, p7⟩, ⟨o8, p8⟩, ⟨o9, p9⟩, k1, k2, k3⟩⟩
end Go.Proofs.YtinbhofpofcmeaaGreatDoor
