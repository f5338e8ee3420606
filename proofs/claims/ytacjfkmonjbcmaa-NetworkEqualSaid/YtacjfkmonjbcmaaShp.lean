/- The shapes of this seat's types are the parts of a network. Printed by a program of the author. -/
import Derived.Test.YtacjfkmonjbcmaaTab
import Derived.Test.YtacjfkmonjbcmaaNkP1
set_option maxRecDepth 100000
namespace Go.Proofs.Ytacjfkmonjbcmaa
open Go.Ab Go.Ab.Tt
theorem shp_Stop {M d : Nat} {qs : List PV} (h : ShpM M Try.prog (d + 2) 47 qs) : ∃ s : Stop, mkE true qs = s.pv ∧ s.OkM M := by
  replace h := shp_struct Try.underlying47 h; simp only [ShpF] at h
  obtain ⟨a0, r0, rfl, _, h0, a1, r1, rfl, _, h1, a2, r2, rfl, _, h2, a3, r3, rfl, _, h3, rfl⟩ := h
  obtain ⟨x0, rfl, o0⟩ := shp_str Try.underlying9 h0
  obtain ⟨x1, rfl, o1⟩ := shp_int Try.underlying3 h1
  obtain ⟨x2, rfl⟩ := shp_bool Try.underlying4 h2
  obtain ⟨x3, rfl, o3⟩ := shp_int Try.underlying3 h3
  exact ⟨⟨x0, x1, x2, x3⟩, rfl, ⟨o0, o1, o3⟩⟩
theorem shp_Route {M d : Nat} {qs : List PV} (h : ShpM M Try.prog (d + 2) 49 qs) : ∃ s : Route, mkE true qs = s.pv ∧ s.OkM M := by
  replace h := shp_struct Try.underlying49 h; simp only [ShpF] at h
  obtain ⟨a0, r0, rfl, _, h0, a1, r1, rfl, _, h1, a2, r2, rfl, _, h2, rfl⟩ := h
  obtain ⟨x0, rfl, o0⟩ := shp_str Try.underlying9 h0
  obtain ⟨x1, rfl, o1⟩ := shp_int Try.underlying3 h1
  obtain ⟨x2, rfl⟩ := shp_bool Try.underlying4 h2
  exact ⟨⟨x0, x1, x2⟩, rfl, ⟨o0, o1⟩⟩
theorem shp_Kall {M d : Nat} {qs : List PV} (h : ShpM M Try.prog (d + 2) 43 qs) : ∃ s : Kall, mkE true qs = s.pv ∧ s.OkM M := by
  replace h := shp_struct Try.underlying43 h; simp only [ShpF] at h
  obtain ⟨a0, r0, rfl, _, h0, a1, r1, rfl, _, h1, a2, r2, rfl, _, h2, a3, r3, rfl, _, h3, a4, r4, rfl, _, h4, rfl⟩ := h
  obtain ⟨x0, rfl, o0⟩ := shp_int Try.underlying3 h0
  obtain ⟨x1, rfl, o1⟩ := shp_int Try.underlying3 h1
  obtain ⟨x2, rfl, o2⟩ := shp_int Try.underlying3 h2
  obtain ⟨x3, rfl⟩ := shp_bool Try.underlying4 h3
  obtain ⟨x4, rfl⟩ := shp_bool Try.underlying4 h4
  exact ⟨⟨x0, x1, x2, x3, x4⟩, rfl, ⟨o0, o1, o2⟩⟩
theorem shp_Run {M d : Nat} {qs : List PV} (h : ShpM M Try.prog (d + 4) 41 qs) : ∃ s : Run, mkE true qs = s.pv ∧ s.OkM M := by
  replace h := shp_struct Try.underlying41 h; simp only [ShpF] at h
  obtain ⟨a0, r0, rfl, _, h0, a1, r1, rfl, _, h1, a2, r2, rfl, _, h2, a3, r3, rfl, _, h3, a4, r4, rfl, _, h4, a5, r5, rfl, _, h5, a6, r6, rfl, _, h6, a7, r7, rfl, _, h7, rfl⟩ := h
  obtain ⟨x0, rfl, o0⟩ := shp_int Try.underlying3 h0
  obtain ⟨x1, rfl, o1⟩ := shp_int Try.underlying3 h1
  obtain ⟨x2, rfl, o2⟩ := shp_int Try.underlying3 h2
  obtain ⟨x3, rfl, o3⟩ := shp_str Try.underlying9 h3
  obtain ⟨x4, rfl, o4⟩ := shp_int Try.underlying3 h4
  obtain ⟨x5, rfl⟩ := shp_bool Try.underlying4 h5
  obtain ⟨x6, rfl⟩ := shp_bool Try.underlying4 h6
  obtain ⟨x7, rfl, o7, p7⟩ := shp_list (f := Kall.pv) (Q := Kall.OkM M) (c := 5) Try.underlying39 (by kernel_rfl) (by kernel_rfl) (fun qs h => shp_Kall h) h7
  exact ⟨⟨x0, x1, x2, x3, x4, x5, x6, x7⟩, rfl, ⟨o0, o1, o2, o3, o4, ⟨o7, p7⟩⟩⟩
theorem shp_Link {M d : Nat} {qs : List PV} (h : ShpM M Try.prog (d + 2) 51 qs) : ∃ s : Link, mkE true qs = s.pv ∧ s.OkM M := by
  replace h := shp_struct Try.underlying51 h; simp only [ShpF] at h
  obtain ⟨a0, r0, rfl, _, h0, a1, r1, rfl, _, h1, a2, r2, rfl, _, h2, a3, r3, rfl, _, h3, a4, r4, rfl, _, h4, rfl⟩ := h
  obtain ⟨x0, rfl, o0⟩ := shp_int Try.underlying3 h0
  obtain ⟨x1, rfl, o1⟩ := shp_int Try.underlying3 h1
  obtain ⟨x2, rfl, o2⟩ := shp_int Try.underlying3 h2
  obtain ⟨x3, rfl, o3⟩ := shp_int Try.underlying3 h3
  obtain ⟨x4, rfl⟩ := shp_bool Try.underlying4 h4
  exact ⟨⟨x0, x1, x2, x3, x4⟩, rfl, ⟨o0, o1, o2, o3⟩⟩
theorem shp_Path {M d : Nat} {qs : List PV} (h : ShpM M Try.prog (d + 2) 53 qs) : ∃ s : Path, mkE true qs = s.pv ∧ s.OkM M := by
  replace h := shp_struct Try.underlying53 h; simp only [ShpF] at h
  obtain ⟨a0, r0, rfl, _, h0, a1, r1, rfl, _, h1, a2, r2, rfl, _, h2, a3, r3, rfl, _, h3, rfl⟩ := h
  obtain ⟨x0, rfl, o0⟩ := shp_int Try.underlying3 h0
  obtain ⟨x1, rfl, o1⟩ := shp_int Try.underlying3 h1
  obtain ⟨x2, rfl, o2⟩ := shp_int Try.underlying3 h2
  obtain ⟨x3, rfl⟩ := shp_bool Try.underlying4 h3
  exact ⟨⟨x0, x1, x2, x3⟩, rfl, ⟨o0, o1, o2⟩⟩
theorem shp_Prdt {M d : Nat} {qs : List PV} (h : ShpM M Try.prog (d + 2) 55 qs) : ∃ s : Prdt, mkE true qs = s.pv ∧ s.OkM M := by
  replace h := shp_struct Try.underlying55 h; simp only [ShpF] at h
  obtain ⟨a0, r0, rfl, _, h0, a1, r1, rfl, _, h1, a2, r2, rfl, _, h2, a3, r3, rfl, _, h3, a4, r4, rfl, _, h4, a5, r5, rfl, _, h5, rfl⟩ := h
  obtain ⟨x0, rfl, o0⟩ := shp_str Try.underlying9 h0
  obtain ⟨x1, rfl, o1⟩ := shp_int Try.underlying3 h1
  obtain ⟨x2, rfl, o2⟩ := shp_int Try.underlying3 h2
  obtain ⟨x3, rfl, o3⟩ := shp_int Try.underlying3 h3
  obtain ⟨x4, rfl, o4⟩ := shp_int Try.underlying3 h4
  obtain ⟨x5, rfl, o5⟩ := shp_int Try.underlying3 h5
  exact ⟨⟨x0, x1, x2, x3, x4, x5⟩, rfl, ⟨o0, o1, o2, o3, o4, o5⟩⟩
theorem shp_Network {M : Nat} {ps : List PV} (h : ShpM M Try.prog 8 31 ps) : ∃ s : Network, mkE true ps = s.pv ∧ s.OkM M := by
  replace h := shp_struct (d := 7) Try.underlying31 h; simp only [ShpF] at h
  obtain ⟨a0, r0, rfl, _, h0, a1, r1, rfl, _, h1, a2, r2, rfl, _, h2, a3, r3, rfl, _, h3, a4, r4, rfl, _, h4, a5, r5, rfl, _, h5, rfl⟩ := h
  obtain ⟨x0, rfl, o0, p0⟩ := shp_list (f := Stop.pv) (Q := Stop.OkM M) (c := 4) Try.underlying22 (by kernel_rfl) (by kernel_rfl) (fun qs h => shp_Stop h) h0
  obtain ⟨x1, rfl, o1, p1⟩ := shp_list (f := Route.pv) (Q := Route.OkM M) (c := 3) Try.underlying23 (by kernel_rfl) (by kernel_rfl) (fun qs h => shp_Route h) h1
  obtain ⟨x2, rfl, o2, p2⟩ := shp_list (f := Run.pv) (Q := Run.OkM M) (c := 8) Try.underlying24 (by kernel_rfl) (by kernel_rfl) (fun qs h => shp_Run h) h2
  obtain ⟨x3, rfl, o3, p3⟩ := shp_list (f := Link.pv) (Q := Link.OkM M) (c := 5) Try.underlying25 (by kernel_rfl) (by kernel_rfl) (fun qs h => shp_Link h) h3
  obtain ⟨x4, rfl, o4, p4⟩ := shp_list (f := Path.pv) (Q := Path.OkM M) (c := 4) Try.underlying26 (by kernel_rfl) (by kernel_rfl) (fun qs h => shp_Path h) h4
  replace h5 := shp_struct (d := 6) Try.underlying29 h5; simp only [ShpF] at h5
  obtain ⟨b0, q0, rfl, _, g0, b1, q1, rfl, _, g1, b2, q2, rfl, _, g2, b3, q3, rfl, _, g3, rfl⟩ := h5
  obtain ⟨x5, rfl, o5, p5⟩ := shp_list (f := Prdt.pv) (Q := Prdt.OkM M) (c := 6) Try.underlying27 (by kernel_rfl) (by kernel_rfl) (fun qs h => shp_Prdt h) g0
  obtain ⟨z1, rfl, k1⟩ := shp_int Try.underlying3 g1
  obtain ⟨z2, rfl, k2⟩ := shp_int Try.underlying3 g2
  obtain ⟨z3, rfl, k3⟩ := shp_int Try.underlying3 g3
  exact ⟨⟨x0, x1, x2, x3, x4, x5, z1, z2, z3⟩, rfl, ⟨⟨o0, p0⟩, ⟨o1, p1⟩, ⟨o2, p2⟩, ⟨o3, p3⟩, ⟨o4, p4⟩, ⟨o5, p5⟩, k1, k2, k3⟩⟩
end Go.Proofs.Ytacjfkmonjbcmaa
