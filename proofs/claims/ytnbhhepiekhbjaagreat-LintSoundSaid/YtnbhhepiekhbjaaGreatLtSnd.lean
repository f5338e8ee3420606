/- The loops of Warnings: the seven lists are collected one after the other. Printed by a program of the author. -/
import Derived.Test.YtnbhhepiekhbjaaGreatLtOne
namespace Go.Ab.Tt
set_option maxRecDepth 100000
set_option linter.unusedVariables false

theorem cell_one (x : PV) : cell (.agg [x]) 0 = x := rfl
theorem sameB_tn (b : Bool) : sameB true (!b) = !b := by cases b <;> rfl
theorem sameB_t (b : Bool) : sameB true b = b := by cases b <;> rfl
theorem map_case {R : Type} (kt : TypeId) (ks vs : List PV) (a : Option R) (b : List PV → List PV → Option R) : mapCase kt (.rm kt ks vs) a b = b ks vs := by simp [mapCase]
theorem room_ok (l : List Warn) (w : Warn) (h : l.length < 1000000) : ((l ++ [w]).map Warn.pv).length * 24 ≤ roomBound := by
  simp only [List.length_append, List.length_map, List.length_singleton]
  have : roomBound = 140737488355328 := rfl
  omega
theorem snoc_pv (l : List Warn) (w : Warn) : l.map Warn.pv ++ [w.pv] = (l ++ [w]).map Warn.pv := by simp
/-- whether the last one collected is another one -/
def lastE (out : List PV) (a b c : Int) : Option Bool := bif (out.length : Int) == 0 then some true
  else if inRange (IntKind.i64.wrap ((out.length : Int) - 1)) out.length then
    out[(IntKind.i64.wrap ((out.length : Int) - 1)).toNat]?.bind fun e =>
      if chk (Kd.int IntKind.i64 :: [].append (Kd.int IntKind.i64 :: [].append (Kd.int IntKind.i64 :: [].append []))) [cell e 0, cell e 1, cell e 2] = true ∧ chk (Kd.int IntKind.i64 :: [].append (Kd.int IntKind.i64 :: [].append (Kd.int IntKind.i64 :: [].append []))) [.int .i64 a, .int .i64 b, .int .i64 c] = true then
        some !peqL [cell e 0, cell e 1, cell e 2] [.int .i64 a, .int .i64 b, .int .i64 c]
      else none
  else none
theorem lastE_ok (l : List Warn) (w : Warn) (h : l.length < 1000000) (hl : l.getLast? ≠ some w) : lastE (l.map Warn.pv) w.kind w.a w.b = some true := by
  unfold lastE
  cases hn : l.length with
  | zero =>
    have : l = [] := List.eq_nil_of_length_eq_zero hn
    subst this; rfl
  | succ n =>
    have hlen : (l.map Warn.pv).length = n + 1 := by simp [hn]
    have h0 : (((n + 1 : Nat) : Int) == 0) = false := by rw [beq_d]; simp; omega
    have hw : IntKind.i64.wrap (((n + 1 : Nat) : Int) - 1) = (n : Int) := by rw [wrap_in (by omega) (by omega)]; omega
    have hr : inRange (n : Int) (n + 1) := by unfold inRange; omega
    have hg : (l.map Warn.pv)[n]? = some (l[n]'(by omega)).pv := by rw [List.getElem?_map, List.getElem?_eq_getElem (by omega)]; rfl
    have hne : l[n]'(by omega) ≠ w := fun he => hl (by rw [List.getLast?_eq_getElem?, hn, show n + 1 - 1 = n by omega, List.getElem?_eq_getElem (by omega), he])
    rw [hlen, h0, hw, if_pos hr, Int.toNat_natCast, hg]
    simp only [cond_false, bind_some', warn0, warn1, warn2, warn_chk, and_self, if_true, warn_eq, decide_eq_false hne, Bool.not_false]

theorem rnd8 (n : Int) (k : Nat) (ks vs : List PV) (kind : Int) (a0 a1 a2 b0 b1 b2 c0 c1 c2 d0 d1 d2 e0 e1 e2 e3 e4 e5 e6 e7 e8 e9 e10 e11 e12 e13 f0 f1 f2 g0 g1 g2 : PV) (l : List Warn) (u : Bool) (hm : mlook (.int .i64 k) (.bool false) (ks.zip vs) = .bool u) (hk : (k : Int) < n) (hn : k < 1000000) (hlen : l.length < 1000000) (hlast : l.getLast? ≠ some ⟨kind, k, 0⟩) (rec) :
    lint_Warnings_L8 lpS (PV.agg [.rm 3 ks vs], PV.agg [.int .i64 kind], n, (k : Int), [a0, a1, a2], [b0, b1, b2], [c0, c1, c2], [d0, d1, d2], [e0, e1, e2, e3, e4, e5, e6, e7, e8, e9, e10, e11, e12, e13], [f0, f1, f2], [g0, g1, g2], l.map Warn.pv, ()) rec = rec (PV.agg [.rm 3 ks vs], PV.agg [.int .i64 kind], n, ((k + 1 : Nat) : Int), [a0, a1, a2], [b0, b1, b2], [c0, c1, c2], [d0, d1, d2], [e0, e1, e2, e3, e4, e5, e6, e7, e8, e9, e10, e11, e12, e13], [f0, f1, f2], [g0, g1, g2], (if u = true then l else l ++ [⟨kind, k, 0⟩]).map Warn.pv, ()) := by
  have hl := lastE_ok l ⟨kind, k, 0⟩ hlen hlast
  have hr := room_ok l ⟨kind, k, 0⟩ hlen
  unfold lastE at hl
  simp only at hl
  simp only [lint_Warnings_L8, decide_eq_true_eq, hk, if_true, cell_one, map_case, hm, asBool, asInt, bind_some', sameB_tn, hl, List.getD_cons_zero, List.getD_cons_succ, wrap_nat (show k < 9223372036854775807 by omega), warnE, snoc_pv]
  cases u with
  | true => simp only [Bool.not_true, cond_false, if_true]
  | false => simp only [Bool.not_false, cond_true, if_false, Bool.false_eq_true, hr, show (0 : Nat) < 24 from by decide, and_self, if_true]

theorem rnd7 (n : Int) (k : Nat) (ks vs : List PV) (kind : Int) (a0 a1 a2 b0 b1 b2 c0 c1 c2 d0 d1 d2 e0 e1 e2 e3 e4 e5 e6 e7 e8 e9 e10 e11 e12 e13 f0 f1 f2 g0 g1 g2 : PV) (l : List Warn) (u : Bool) (hm : mlook (.int .i64 k) (.bool false) (ks.zip vs) = .bool u) (hk : (k : Int) < n) (hn : k < 1000000) (hlen : l.length < 1000000) (hlast : l.getLast? ≠ some ⟨kind, k, 0⟩) (rec) :
    lint_Warnings_L7 lpS (PV.agg [.rm 3 ks vs], PV.agg [.int .i64 kind], n, (k : Int), [a0, a1, a2], [b0, b1, b2], [c0, c1, c2], [d0, d1, d2], [e0, e1, e2, e3, e4, e5, e6, e7, e8, e9, e10, e11, e12, e13], [f0, f1, f2], [g0, g1, g2], l.map Warn.pv, ()) rec = rec (PV.agg [.rm 3 ks vs], PV.agg [.int .i64 kind], n, ((k + 1 : Nat) : Int), [a0, a1, a2], [b0, b1, b2], [c0, c1, c2], [d0, d1, d2], [e0, e1, e2, e3, e4, e5, e6, e7, e8, e9, e10, e11, e12, e13], [f0, f1, f2], [g0, g1, g2], (if u = true then l else l ++ [⟨kind, k, 0⟩]).map Warn.pv, ()) := by
  have hl := lastE_ok l ⟨kind, k, 0⟩ hlen hlast
  have hr := room_ok l ⟨kind, k, 0⟩ hlen
  unfold lastE at hl
  simp only at hl
  simp only [lint_Warnings_L7, decide_eq_true_eq, hk, if_true, cell_one, map_case, hm, asBool, asInt, bind_some', sameB_tn, hl, List.getD_cons_zero, List.getD_cons_succ, wrap_nat (show k < 9223372036854775807 by omega), warnE, snoc_pv]
  cases u with
  | true => simp only [Bool.not_true, cond_false, if_true]
  | false => simp only [Bool.not_false, cond_true, if_false, Bool.false_eq_true, hr, show (0 : Nat) < 24 from by decide, and_self, if_true]

theorem rnd6 (n : Int) (k : Nat) (ks vs : List PV) (kind : Int) (a0 a1 a2 b0 b1 b2 c0 c1 c2 d0 d1 d2 e0 e1 e2 e3 e4 e5 e6 e7 e8 e9 e10 e11 e12 e13 f0 f1 f2 g0 g1 g2 : PV) (l : List Warn) (u : Bool) (hm : mlook (.int .i64 k) (.bool false) (ks.zip vs) = .bool u) (hk : (k : Int) < n) (hn : k < 1000000) (hlen : l.length < 1000000) (hlast : l.getLast? ≠ some ⟨kind, k, 0⟩) (rec) :
    lint_Warnings_L6 lpS (PV.agg [.rm 3 ks vs], PV.agg [.int .i64 kind], n, (k : Int), [a0, a1, a2], [b0, b1, b2], [c0, c1, c2], [d0, d1, d2], [e0, e1, e2, e3, e4, e5, e6, e7, e8, e9, e10, e11, e12, e13], [f0, f1, f2], [g0, g1, g2], l.map Warn.pv, ()) rec = rec (PV.agg [.rm 3 ks vs], PV.agg [.int .i64 kind], n, ((k + 1 : Nat) : Int), [a0, a1, a2], [b0, b1, b2], [c0, c1, c2], [d0, d1, d2], [e0, e1, e2, e3, e4, e5, e6, e7, e8, e9, e10, e11, e12, e13], [f0, f1, f2], [g0, g1, g2], (if u = true then l else l ++ [⟨kind, k, 0⟩]).map Warn.pv, ()) := by
  have hl := lastE_ok l ⟨kind, k, 0⟩ hlen hlast
  have hr := room_ok l ⟨kind, k, 0⟩ hlen
  unfold lastE at hl
  simp only at hl
  simp only [lint_Warnings_L6, decide_eq_true_eq, hk, if_true, cell_one, map_case, hm, asBool, asInt, bind_some', sameB_tn, hl, List.getD_cons_zero, List.getD_cons_succ, wrap_nat (show k < 9223372036854775807 by omega), warnE, snoc_pv]
  cases u with
  | true => simp only [Bool.not_true, cond_false, if_true]
  | false => simp only [Bool.not_false, cond_true, if_false, Bool.false_eq_true, hr, show (0 : Nat) < 24 from by decide, and_self, if_true]

theorem rnd5 (n : Int) (k : Nat) (ks vs : List PV) (kind : Int) (a0 a1 a2 b0 b1 b2 c0 c1 c2 d0 d1 d2 e0 e1 e2 e3 e4 e5 e6 e7 e8 e9 e10 e11 e12 e13 f0 f1 f2 g0 g1 g2 : PV) (l : List Warn) (u : Bool) (hm : mlook (.int .i64 k) (.bool false) (ks.zip vs) = .bool u) (hk : (k : Int) < n) (hn : k < 1000000) (hlen : l.length < 1000000) (hlast : l.getLast? ≠ some ⟨kind, k, 0⟩) (rec) :
    lint_Warnings_L5 lpS (PV.agg [.rm 3 ks vs], PV.agg [.int .i64 kind], n, (k : Int), [a0, a1, a2], [b0, b1, b2], [c0, c1, c2], [d0, d1, d2], [e0, e1, e2, e3, e4, e5, e6, e7, e8, e9, e10, e11, e12, e13], [f0, f1, f2], [g0, g1, g2], l.map Warn.pv, ()) rec = rec (PV.agg [.rm 3 ks vs], PV.agg [.int .i64 kind], n, ((k + 1 : Nat) : Int), [a0, a1, a2], [b0, b1, b2], [c0, c1, c2], [d0, d1, d2], [e0, e1, e2, e3, e4, e5, e6, e7, e8, e9, e10, e11, e12, e13], [f0, f1, f2], [g0, g1, g2], (if u = true then l else l ++ [⟨kind, k, 0⟩]).map Warn.pv, ()) := by
  have hl := lastE_ok l ⟨kind, k, 0⟩ hlen hlast
  have hr := room_ok l ⟨kind, k, 0⟩ hlen
  unfold lastE at hl
  simp only at hl
  simp only [lint_Warnings_L5, decide_eq_true_eq, hk, if_true, cell_one, map_case, hm, asBool, asInt, bind_some', sameB_tn, hl, List.getD_cons_zero, List.getD_cons_succ, wrap_nat (show k < 9223372036854775807 by omega), warnE, snoc_pv]
  cases u with
  | true => simp only [Bool.not_true, cond_false, if_true]
  | false => simp only [Bool.not_false, cond_true, if_false, Bool.false_eq_true, hr, show (0 : Nat) < 24 from by decide, and_self, if_true]

theorem rnd3 (n : Int) (k : Nat) (ks vs : List PV) (kind : Int) (a0 a1 a2 b0 b1 b2 c0 c1 c2 d0 d1 d2 e0 e1 e2 e3 e4 e5 e6 e7 e8 e9 e10 e11 e12 e13 f0 f1 f2 g0 g1 g2 : PV) (l : List Warn) (u : Bool) (hm : mlook (.int .i64 k) (.bool false) (ks.zip vs) = .bool u) (hk : (k : Int) < n) (hn : k < 1000000) (hlen : l.length < 1000000) (hlast : l.getLast? ≠ some ⟨kind, k, 0⟩) (rec) :
    lint_Warnings_L3 lpS (PV.agg [.rm 3 ks vs], PV.agg [.int .i64 kind], n, (k : Int), [a0, a1, a2], [b0, b1, b2], [c0, c1, c2], [d0, d1, d2], [e0, e1, e2, e3, e4, e5, e6, e7, e8, e9, e10, e11, e12, e13], [f0, f1, f2], [g0, g1, g2], l.map Warn.pv, ()) rec = rec (PV.agg [.rm 3 ks vs], PV.agg [.int .i64 kind], n, ((k + 1 : Nat) : Int), [a0, a1, a2], [b0, b1, b2], [c0, c1, c2], [d0, d1, d2], [e0, e1, e2, e3, e4, e5, e6, e7, e8, e9, e10, e11, e12, e13], [f0, f1, f2], [g0, g1, g2], (if u = true then l else l ++ [⟨kind, k, 0⟩]).map Warn.pv, ()) := by
  have hl := lastE_ok l ⟨kind, k, 0⟩ hlen hlast
  have hr := room_ok l ⟨kind, k, 0⟩ hlen
  unfold lastE at hl
  simp only at hl
  simp only [lint_Warnings_L3, decide_eq_true_eq, hk, if_true, cell_one, map_case, hm, asBool, asInt, bind_some', sameB_tn, hl, List.getD_cons_zero, List.getD_cons_succ, wrap_nat (show k < 9223372036854775807 by omega), warnE, snoc_pv]
  cases u with
  | true => simp only [Bool.not_true, cond_false, if_true]
  | false => simp only [Bool.not_false, cond_true, if_false, Bool.false_eq_true, hr, show (0 : Nat) < 24 from by decide, and_self, if_true]

theorem rnd2 (n : Int) (k : Nat) (ks vs : List PV) (kind : Int) (a0 a1 a2 b0 b1 b2 c0 c1 c2 d0 d1 d2 e0 e1 e2 e3 e4 e5 e6 e7 e8 e9 e10 e11 e12 e13 f0 f1 f2 g0 g1 g2 : PV) (l : List Warn) (u : Bool) (hm : mlook (.int .i64 k) (.bool false) (ks.zip vs) = .bool u) (hk : (k : Int) < n) (hn : k < 1000000) (hlen : l.length < 1000000) (hlast : l.getLast? ≠ some ⟨kind, k, 0⟩) (rec) :
    lint_Warnings_L2 lpS (PV.agg [.rm 3 ks vs], PV.agg [.int .i64 kind], n, (k : Int), [a0, a1, a2], [b0, b1, b2], [c0, c1, c2], [d0, d1, d2], [e0, e1, e2, e3, e4, e5, e6, e7, e8, e9, e10, e11, e12, e13], [f0, f1, f2], [g0, g1, g2], l.map Warn.pv, ()) rec = rec (PV.agg [.rm 3 ks vs], PV.agg [.int .i64 kind], n, ((k + 1 : Nat) : Int), [a0, a1, a2], [b0, b1, b2], [c0, c1, c2], [d0, d1, d2], [e0, e1, e2, e3, e4, e5, e6, e7, e8, e9, e10, e11, e12, e13], [f0, f1, f2], [g0, g1, g2], (if u = true then l else l ++ [⟨kind, k, 0⟩]).map Warn.pv, ()) := by
  have hl := lastE_ok l ⟨kind, k, 0⟩ hlen hlast
  have hr := room_ok l ⟨kind, k, 0⟩ hlen
  unfold lastE at hl
  simp only at hl
  simp only [lint_Warnings_L2, decide_eq_true_eq, hk, if_true, cell_one, map_case, hm, asBool, asInt, bind_some', sameB_tn, hl, List.getD_cons_zero, List.getD_cons_succ, wrap_nat (show k < 9223372036854775807 by omega), warnE, snoc_pv]
  cases u with
  | true => simp only [Bool.not_true, cond_false, if_true]
  | false => simp only [Bool.not_false, cond_true, if_false, Bool.false_eq_true, hr, show (0 : Nat) < 24 from by decide, and_self, if_true]

/-- the indices below n that are not among those -/
def missW (kind : Int) (f : Int → Bool) (n : Nat) : List Warn := ((List.range n).filter fun (i : Nat) => !f i).map fun (i : Nat) => ⟨kind, i, 0⟩
theorem missW_succ (kind : Int) (f : Int → Bool) (n : Nat) : missW kind f (n + 1) = if f n = true then missW kind f n else missW kind f n ++ [⟨kind, n, 0⟩] := by
  unfold missW
  rw [List.range_succ, List.filter_append, List.map_append]
  cases h : f n <;> simp [h]
theorem missW_len (kind : Int) (f : Int → Bool) (n : Nat) : (missW kind f n).length ≤ n := by
  unfold missW
  rw [List.length_map]
  exact Nat.le_trans (List.length_filter_le _ _) (by simp)
theorem missW_last (kind : Int) (f : Int → Bool) (n : Nat) (pre : List Warn) (hp : ∀ w ∈ pre, w.kind ≠ kind) : (pre ++ missW kind f n).getLast? ≠ some ⟨kind, n, 0⟩ := by
  intro h
  have := List.mem_of_getLast? h
  rcases List.mem_append.1 this with h1 | h1
  · exact hp _ h1 rfl
  · unfold missW at h1
    rw [List.mem_map] at h1
    obtain ⟨i, hi, he⟩ := h1
    rw [List.mem_filter, List.mem_range] at hi
    simp only [Warn.mk.injEq] at he
    omega

theorem stage8 (n : Nat) (hn : n ≤ 1000) (ks vs : List PV) (kind : Int) (f : Int → Bool) (hf : MB (ks.zip vs) f) (pre : List Warn) (hpre : pre.length ≤ 10000) (hp : ∀ w ∈ pre, w.kind ≠ kind) (a0 a1 a2 b0 b1 b2 c0 c1 c2 d0 d1 d2 e0 e1 e2 e3 e4 e5 e6 e7 e8 e9 e10 e11 e12 e13 f0 f1 f2 g0 g1 g2 : PV) (nx : Int) (hx : b0 = .int .i64 nx) :
    lpS.run (lint_Warnings_L8 lpS) (PV.agg [.rm 3 ks vs], PV.agg [.int .i64 kind], (n : Int), 0, [a0, a1, a2], [b0, b1, b2], [c0, c1, c2], [d0, d1, d2], [e0, e1, e2, e3, e4, e5, e6, e7, e8, e9, e10, e11, e12, e13], [f0, f1, f2], [g0, g1, g2], pre.map Warn.pv, ()) = lpS.run (lint_Warnings_L7 lpS) (PV.agg [b1], PV.agg [b2], nx, 0, [a0, a1, a2], [b0, b1, b2], [c0, c1, c2], [d0, d1, d2], [e0, e1, e2, e3, e4, e5, e6, e7, e8, e9, e10, e11, e12, e13], [f0, f1, f2], [g0, g1, g2], (pre ++ missW kind f n).map Warn.pv, ()) := by
  refine loop_until (fun k => (PV.agg [.rm 3 ks vs], PV.agg [.int .i64 kind], (n : Int), (k : Int), [a0, a1, a2], [b0, b1, b2], [c0, c1, c2], [d0, d1, d2], [e0, e1, e2, e3, e4, e5, e6, e7, e8, e9, e10, e11, e12, e13], [f0, f1, f2], [g0, g1, g2], (pre ++ missW kind f k).map Warn.pv, ())) n (fun k hk rec => ?_) (fun rec => ?_) ?_ (by simp [missW])
  · have hl := missW_len kind f k
    rw [rnd8 n k ks vs kind a0 a1 a2 b0 b1 b2 c0 c1 c2 d0 d1 d2 e0 e1 e2 e3 e4 e5 e6 e7 e8 e9 e10 e11 e12 e13 f0 f1 f2 g0 g1 g2 (pre ++ missW kind f k) (f k) (hf k) (by omega) (by omega) (by rw [List.length_append]; omega) (missW_last kind f k pre hp) rec, missW_succ]
    cases f k with
    | true => simp only [if_true]
    | false => simp only [Bool.false_eq_true, if_false, List.append_assoc]
  · subst hx; simp only [lint_Warnings_L8, decide_eq_true_eq, Int.lt_irrefl, if_false, List.getD_cons_zero, List.getD_cons_succ, asInt, if_true, bind_some']
  · have := rounds_gt; have : 100000 ≤ maxLen := by decide
    omega

theorem stage7 (n : Nat) (hn : n ≤ 1000) (ks vs : List PV) (kind : Int) (f : Int → Bool) (hf : MB (ks.zip vs) f) (pre : List Warn) (hpre : pre.length ≤ 10000) (hp : ∀ w ∈ pre, w.kind ≠ kind) (a0 a1 a2 b0 b1 b2 c0 c1 c2 d0 d1 d2 e0 e1 e2 e3 e4 e5 e6 e7 e8 e9 e10 e11 e12 e13 f0 f1 f2 g0 g1 g2 : PV) (nx : Int) (hx : c0 = .int .i64 nx) :
    lpS.run (lint_Warnings_L7 lpS) (PV.agg [.rm 3 ks vs], PV.agg [.int .i64 kind], (n : Int), 0, [a0, a1, a2], [b0, b1, b2], [c0, c1, c2], [d0, d1, d2], [e0, e1, e2, e3, e4, e5, e6, e7, e8, e9, e10, e11, e12, e13], [f0, f1, f2], [g0, g1, g2], pre.map Warn.pv, ()) = lpS.run (lint_Warnings_L6 lpS) (PV.agg [c1], PV.agg [c2], nx, 0, [a0, a1, a2], [b0, b1, b2], [c0, c1, c2], [d0, d1, d2], [e0, e1, e2, e3, e4, e5, e6, e7, e8, e9, e10, e11, e12, e13], [f0, f1, f2], [g0, g1, g2], (pre ++ missW kind f n).map Warn.pv, ()) := by
  refine loop_until (fun k => (PV.agg [.rm 3 ks vs], PV.agg [.int .i64 kind], (n : Int), (k : Int), [a0, a1, a2], [b0, b1, b2], [c0, c1, c2], [d0, d1, d2], [e0, e1, e2, e3, e4, e5, e6, e7, e8, e9, e10, e11, e12, e13], [f0, f1, f2], [g0, g1, g2], (pre ++ missW kind f k).map Warn.pv, ())) n (fun k hk rec => ?_) (fun rec => ?_) ?_ (by simp [missW])
  · have hl := missW_len kind f k
    rw [rnd7 n k ks vs kind a0 a1 a2 b0 b1 b2 c0 c1 c2 d0 d1 d2 e0 e1 e2 e3 e4 e5 e6 e7 e8 e9 e10 e11 e12 e13 f0 f1 f2 g0 g1 g2 (pre ++ missW kind f k) (f k) (hf k) (by omega) (by omega) (by rw [List.length_append]; omega) (missW_last kind f k pre hp) rec, missW_succ]
    cases f k with
    | true => simp only [if_true]
    | false => simp only [Bool.false_eq_true, if_false, List.append_assoc]
  · subst hx; simp only [lint_Warnings_L7, decide_eq_true_eq, Int.lt_irrefl, if_false, List.getD_cons_zero, List.getD_cons_succ, asInt, if_true, bind_some']
  · have := rounds_gt; have : 100000 ≤ maxLen := by decide
    omega

theorem stage6 (n : Nat) (hn : n ≤ 1000) (ks vs : List PV) (kind : Int) (f : Int → Bool) (hf : MB (ks.zip vs) f) (pre : List Warn) (hpre : pre.length ≤ 10000) (hp : ∀ w ∈ pre, w.kind ≠ kind) (a0 a1 a2 b0 b1 b2 c0 c1 c2 d0 d1 d2 e0 e1 e2 e3 e4 e5 e6 e7 e8 e9 e10 e11 e12 e13 f0 f1 f2 g0 g1 g2 : PV) (nx : Int) (hx : d0 = .int .i64 nx) :
    lpS.run (lint_Warnings_L6 lpS) (PV.agg [.rm 3 ks vs], PV.agg [.int .i64 kind], (n : Int), 0, [a0, a1, a2], [b0, b1, b2], [c0, c1, c2], [d0, d1, d2], [e0, e1, e2, e3, e4, e5, e6, e7, e8, e9, e10, e11, e12, e13], [f0, f1, f2], [g0, g1, g2], pre.map Warn.pv, ()) = lpS.run (lint_Warnings_L5 lpS) (PV.agg [d1], PV.agg [d2], nx, 0, [a0, a1, a2], [b0, b1, b2], [c0, c1, c2], [d0, d1, d2], [e0, e1, e2, e3, e4, e5, e6, e7, e8, e9, e10, e11, e12, e13], [f0, f1, f2], [g0, g1, g2], (pre ++ missW kind f n).map Warn.pv, ()) := by
  refine loop_until (fun k => (PV.agg [.rm 3 ks vs], PV.agg [.int .i64 kind], (n : Int), (k : Int), [a0, a1, a2], [b0, b1, b2], [c0, c1, c2], [d0, d1, d2], [e0, e1, e2, e3, e4, e5, e6, e7, e8, e9, e10, e11, e12, e13], [f0, f1, f2], [g0, g1, g2], (pre ++ missW kind f k).map Warn.pv, ())) n (fun k hk rec => ?_) (fun rec => ?_) ?_ (by simp [missW])
  · have hl := missW_len kind f k
    rw [rnd6 n k ks vs kind a0 a1 a2 b0 b1 b2 c0 c1 c2 d0 d1 d2 e0 e1 e2 e3 e4 e5 e6 e7 e8 e9 e10 e11 e12 e13 f0 f1 f2 g0 g1 g2 (pre ++ missW kind f k) (f k) (hf k) (by omega) (by omega) (by rw [List.length_append]; omega) (missW_last kind f k pre hp) rec, missW_succ]
    cases f k with
    | true => simp only [if_true]
    | false => simp only [Bool.false_eq_true, if_false, List.append_assoc]
  · subst hx; simp only [lint_Warnings_L6, decide_eq_true_eq, Int.lt_irrefl, if_false, List.getD_cons_zero, List.getD_cons_succ, asInt, if_true, bind_some']
  · have := rounds_gt; have : 100000 ≤ maxLen := by decide
    omega

theorem stage5 (n : Nat) (hn : n ≤ 1000) (ks vs : List PV) (kind : Int) (f : Int → Bool) (hf : MB (ks.zip vs) f) (pre : List Warn) (hpre : pre.length ≤ 10000) (hp : ∀ w ∈ pre, w.kind ≠ kind) (a0 a1 a2 b0 b1 b2 c0 c1 c2 d0 d1 d2 e0 e1 e2 e3 e4 e5 e6 e7 e8 e9 e10 e11 e12 e13 f0 f1 f2 g0 g1 g2 : PV) (ts : List PV) (hx : e4 = .rs 5 ts) :
    lpS.run (lint_Warnings_L5 lpS) (PV.agg [.rm 3 ks vs], PV.agg [.int .i64 kind], (n : Int), 0, [a0, a1, a2], [b0, b1, b2], [c0, c1, c2], [d0, d1, d2], [e0, e1, e2, e3, e4, e5, e6, e7, e8, e9, e10, e11, e12, e13], [f0, f1, f2], [g0, g1, g2], pre.map Warn.pv, ()) = lpS.run (lint_Warnings_L4 lpS) (PV.agg [e0, e1, e2, e3, e4, e5, e6, e7, e8, e9, e10, e11, e12], [e13], ts, (ts.length : Int), 0, [a0, a1, a2], [b0, b1, b2], [c0, c1, c2], [d0, d1, d2], [e0, e1, e2, e3, e4, e5, e6, e7, e8, e9, e10, e11, e12, e13], [f0, f1, f2], [g0, g1, g2], (pre ++ missW kind f n).map Warn.pv, ()) := by
  refine loop_until (fun k => (PV.agg [.rm 3 ks vs], PV.agg [.int .i64 kind], (n : Int), (k : Int), [a0, a1, a2], [b0, b1, b2], [c0, c1, c2], [d0, d1, d2], [e0, e1, e2, e3, e4, e5, e6, e7, e8, e9, e10, e11, e12, e13], [f0, f1, f2], [g0, g1, g2], (pre ++ missW kind f k).map Warn.pv, ())) n (fun k hk rec => ?_) (fun rec => ?_) ?_ (by simp [missW])
  · have hl := missW_len kind f k
    rw [rnd5 n k ks vs kind a0 a1 a2 b0 b1 b2 c0 c1 c2 d0 d1 d2 e0 e1 e2 e3 e4 e5 e6 e7 e8 e9 e10 e11 e12 e13 f0 f1 f2 g0 g1 g2 (pre ++ missW kind f k) (f k) (hf k) (by omega) (by omega) (by rw [List.length_append]; omega) (missW_last kind f k pre hp) rec, missW_succ]
    cases f k with
    | true => simp only [if_true]
    | false => simp only [Bool.false_eq_true, if_false, List.append_assoc]
  · subst hx; simp only [lint_Warnings_L5, decide_eq_true_eq, Int.lt_irrefl, if_false, List.getD_cons_zero, List.getD_cons_succ, asSl, if_true, bind_some']
  · have := rounds_gt; have : 100000 ≤ maxLen := by decide
    omega

theorem stage3 (n : Nat) (hn : n ≤ 1000) (ks vs : List PV) (kind : Int) (f : Int → Bool) (hf : MB (ks.zip vs) f) (pre : List Warn) (hpre : pre.length ≤ 10000) (hp : ∀ w ∈ pre, w.kind ≠ kind) (a0 a1 a2 b0 b1 b2 c0 c1 c2 d0 d1 d2 e0 e1 e2 e3 e4 e5 e6 e7 e8 e9 e10 e11 e12 e13 f0 f1 f2 g0 g1 g2 : PV) (nx : Int) (hx : g0 = .int .i64 nx) :
    lpS.run (lint_Warnings_L3 lpS) (PV.agg [.rm 3 ks vs], PV.agg [.int .i64 kind], (n : Int), 0, [a0, a1, a2], [b0, b1, b2], [c0, c1, c2], [d0, d1, d2], [e0, e1, e2, e3, e4, e5, e6, e7, e8, e9, e10, e11, e12, e13], [f0, f1, f2], [g0, g1, g2], pre.map Warn.pv, ()) = lpS.run (lint_Warnings_L2 lpS) (PV.agg [g1], PV.agg [g2], nx, 0, [a0, a1, a2], [b0, b1, b2], [c0, c1, c2], [d0, d1, d2], [e0, e1, e2, e3, e4, e5, e6, e7, e8, e9, e10, e11, e12, e13], [f0, f1, f2], [g0, g1, g2], (pre ++ missW kind f n).map Warn.pv, ()) := by
  refine loop_until (fun k => (PV.agg [.rm 3 ks vs], PV.agg [.int .i64 kind], (n : Int), (k : Int), [a0, a1, a2], [b0, b1, b2], [c0, c1, c2], [d0, d1, d2], [e0, e1, e2, e3, e4, e5, e6, e7, e8, e9, e10, e11, e12, e13], [f0, f1, f2], [g0, g1, g2], (pre ++ missW kind f k).map Warn.pv, ())) n (fun k hk rec => ?_) (fun rec => ?_) ?_ (by simp [missW])
  · have hl := missW_len kind f k
    rw [rnd3 n k ks vs kind a0 a1 a2 b0 b1 b2 c0 c1 c2 d0 d1 d2 e0 e1 e2 e3 e4 e5 e6 e7 e8 e9 e10 e11 e12 e13 f0 f1 f2 g0 g1 g2 (pre ++ missW kind f k) (f k) (hf k) (by omega) (by omega) (by rw [List.length_append]; omega) (missW_last kind f k pre hp) rec, missW_succ]
    cases f k with
    | true => simp only [if_true]
    | false => simp only [Bool.false_eq_true, if_false, List.append_assoc]
  · subst hx; simp only [lint_Warnings_L3, decide_eq_true_eq, Int.lt_irrefl, if_false, List.getD_cons_zero, List.getD_cons_succ, asInt, if_true, bind_some']
  · have := rounds_gt; have : 100000 ≤ maxLen := by decide
    omega

theorem stage2 (n : Nat) (hn : n ≤ 1000) (ks vs : List PV) (kind : Int) (f : Int → Bool) (hf : MB (ks.zip vs) f) (pre : List Warn) (hpre : pre.length ≤ 10000) (hp : ∀ w ∈ pre, w.kind ≠ kind) (a0 a1 a2 b0 b1 b2 c0 c1 c2 d0 d1 d2 e0 e1 e2 e3 e4 e5 e6 e7 e8 e9 e10 e11 e12 e13 f0 f1 f2 g0 g1 g2 : PV) :
    lpS.run (lint_Warnings_L2 lpS) (PV.agg [.rm 3 ks vs], PV.agg [.int .i64 kind], (n : Int), 0, [a0, a1, a2], [b0, b1, b2], [c0, c1, c2], [d0, d1, d2], [e0, e1, e2, e3, e4, e5, e6, e7, e8, e9, e10, e11, e12, e13], [f0, f1, f2], [g0, g1, g2], pre.map Warn.pv, ()) = some (PV.rs 3 ((pre ++ missW kind f n).map Warn.pv)) := by
  refine loop_until (fun k => (PV.agg [.rm 3 ks vs], PV.agg [.int .i64 kind], (n : Int), (k : Int), [a0, a1, a2], [b0, b1, b2], [c0, c1, c2], [d0, d1, d2], [e0, e1, e2, e3, e4, e5, e6, e7, e8, e9, e10, e11, e12, e13], [f0, f1, f2], [g0, g1, g2], (pre ++ missW kind f k).map Warn.pv, ())) n (fun k hk rec => ?_) (fun rec => ?_) ?_ (by simp [missW])
  · have hl := missW_len kind f k
    rw [rnd2 n k ks vs kind a0 a1 a2 b0 b1 b2 c0 c1 c2 d0 d1 d2 e0 e1 e2 e3 e4 e5 e6 e7 e8 e9 e10 e11 e12 e13 f0 f1 f2 g0 g1 g2 (pre ++ missW kind f k) (f k) (hf k) (by omega) (by omega) (by rw [List.length_append]; omega) (missW_last kind f k pre hp) rec, missW_succ]
    cases f k with
    | true => simp only [if_true]
    | false => simp only [Bool.false_eq_true, if_false, List.append_assoc]
  · simp only [lint_Warnings_L2, decide_eq_true_eq, Int.lt_irrefl, if_false]
  · have := rounds_gt; have : 100000 ≤ maxLen := by decide
    omega


/-! ### overtaking -/
def overAt (T : Timetable) (i k : Nat) : Bool := match T.trips[i]?, T.trips[k]? with
  | some x, some y => !decide ((i : Int) = k) && decide (x.cal = y.cal) && !repB T.freqs i && !repB T.freqs k && overB x.calls y.calls
  | _, _ => false
theorem single_ok (T : Timetable) (ks vs : List PV) (hf : MB (ks.zip vs) (repB T.freqs)) (i : Int) : lint_overtaking_1_M [.int .i64 i, .rp [.rm 3 ks vs]] = some (.bool (!repB T.freqs i)) := by
  simp only [lint_overtaking_1_M, lint_overtaking_1, asInt, if_true, bind_some', map_case, hf i, asBool]

theorem rndO (T : Timetable) (hT : T.Ok) (i : Nat) (hi : i < T.trips.length) (k : Nat) (hk : k < T.trips.length) (ks vs : List PV) (hf : MB (ks.zip vs) (repB T.freqs)) (a0 a1 a2 b0 b1 b2 c0 c1 c2 d0 d1 d2 e0 e1 e2 e3 e4 e5 e6 e7 e8 e9 e10 e11 e12 e13 f0 f1 f2 g0 g1 g2 : PV) (l : List Warn) (hlen : l.length < 1000000) (hlast : l.getLast? ≠ some ⟨5, i, k⟩) (rec83) (rec) :
    lint_Warnings_L1 lpS rec83 (T.pv, [.rm 3 ks vs], (i : Int), T.trips.map Trip.pv, (T.trips.length : Int), (i : Int), T.trips.map Trip.pv, (T.trips.length : Int), (k : Int), PV.str T.trips[i].id, PV.int .i64 T.trips[i].route, PV.int .i64 T.trips[i].cal, PV.bool T.trips[i].free, PV.rs 5 (T.trips[i].calls.map Kall.pv), [a0, a1, a2], [b0, b1, b2], [c0, c1, c2], [d0, d1, d2], [e0, e1, e2, e3, e4, e5, e6, e7, e8, e9, e10, e11, e12, e13], [f0, f1, f2], [g0, g1, g2], l.map Warn.pv, ()) rec = rec (T.pv, [.rm 3 ks vs], (i : Int), T.trips.map Trip.pv, (T.trips.length : Int), (i : Int), T.trips.map Trip.pv, (T.trips.length : Int), ((k + 1 : Nat) : Int), PV.str T.trips[i].id, PV.int .i64 T.trips[i].route, PV.int .i64 T.trips[i].cal, PV.bool T.trips[i].free, PV.rs 5 (T.trips[i].calls.map Kall.pv), [a0, a1, a2], [b0, b1, b2], [c0, c1, c2], [d0, d1, d2], [e0, e1, e2, e3, e4, e5, e6, e7, e8, e9, e10, e11, e12, e13], [f0, f1, f2], [g0, g1, g2], (if overAt T i k = true then l ++ [⟨5, i, k⟩] else l).map Warn.pv, ()) := by
  have hm := maxLen_lt
  have htl := hT.trips.1
  have hl := lastE_ok l ⟨5, i, k⟩ hlen hlast
  have hr := room_ok l ⟨5, i, k⟩ hlen
  unfold lastE at hl
  simp only [beq_d, List.getElem?_map] at hl
  have h1 : (k : Int) < (T.trips.length : Int) := by omega
  have ho := over_ok_prog T.trips[i] T.trips[k] (hT.trips.2 _ (List.getElem_mem hi)) (hT.trips.2 _ (List.getElem_mem hk))
  have hc : overAt T i k = (!decide ((i : Int) = k) && decide (T.trips[i].cal = T.trips[k].cal) && !repB T.freqs i && !repB T.freqs k && overB T.trips[i].calls T.trips[k].calls) := by
    unfold overAt; rw [List.getElem?_eq_getElem hi, List.getElem?_eq_getElem hk]
  rw [hc]
  simp only [lint_Warnings_L1, decide_eq_true_eq, h1, if_true, idxP_nat, List.getElem?_map, List.getElem?_eq_getElem hk, Option.map_some, bind_some', asInt, asBool, trip0, trip1, trip2, trip3, trip4, bif_and, List.getD_cons_zero, List.getD_cons_succ, single_ok T ks vs hf, tripE, ho, sameB_t, hl, bne_d, beq_d, tt0, tt1, tt2, tt3, tt4, tt5, tt6, tt7, tt8, tt9, tt10, tt11, tt12, ttE, warnE, snoc_pv, wrap_nat (show k < 9223372036854775807 by omega)]
  cases (!decide ((i : Int) = k) && decide (T.trips[i].cal = T.trips[k].cal) && !repB T.freqs i && !repB T.freqs k && overB T.trips[i].calls T.trips[k].calls) with
  | true => simp only [cond_true, if_true, hr, show (0 : Nat) < 24 from by decide, and_self]
  | false => simp only [cond_false, if_false, Bool.false_eq_true]
/-- the pairs of a trip with those before the k-th one -/
def overRow (T : Timetable) (i k : Nat) : List Warn := ((List.range k).filter fun (j : Nat) => overAt T i j).map fun (j : Nat) => ⟨5, i, j⟩
def overL (T : Timetable) (n : Nat) : List Warn := (List.range n).flatMap fun i => overRow T i T.trips.length
theorem overRow_succ (T : Timetable) (i k : Nat) : overRow T i (k + 1) = if overAt T i k = true then overRow T i k ++ [⟨5, i, k⟩] else overRow T i k := by
  unfold overRow
  rw [List.range_succ, List.filter_append, List.map_append]
  cases h : overAt T i k <;> simp [h]
theorem overRow_len (T : Timetable) (i k : Nat) : (overRow T i k).length ≤ k := by
  unfold overRow
  rw [List.length_map]
  exact Nat.le_trans (List.length_filter_le _ _) (by simp)
theorem overL_succ (T : Timetable) (n : Nat) : overL T (n + 1) = overL T n ++ overRow T n T.trips.length := by
  simp [overL, List.range_succ]
theorem overL_len (T : Timetable) : ∀ n, (overL T n).length ≤ n * T.trips.length
  | 0 => by simp [overL]
  | n + 1 => by
    have := overL_len T n
    have := overRow_len T n T.trips.length
    rw [overL_succ, List.length_append, Nat.add_mul]; omega
theorem over_last (T : Timetable) (i k : Nat) (pre : List Warn) (hp : ∀ w ∈ pre, w.kind ≠ 5) : (pre ++ overL T i ++ overRow T i k).getLast? ≠ some ⟨5, i, k⟩ := by
  intro h
  have := List.mem_of_getLast? h
  rcases List.mem_append.1 this with h1 | h1
  · rcases List.mem_append.1 h1 with h2 | h2
    · exact hp _ h2 rfl
    · unfold overL overRow at h2
      simp only [List.mem_flatMap, List.mem_range, List.mem_map, List.mem_filter, Warn.mk.injEq] at h2
      obtain ⟨j, hj, _, _, h3⟩ := h2
      omega
  · unfold overRow at h1
    simp only [List.mem_range, List.mem_map, List.mem_filter, Warn.mk.injEq] at h1
    omega
theorem over_in_run (T : Timetable) (hT : T.Ok) (h12 : T.trips.length ≤ 100) (i : Nat) (hi : i < T.trips.length) (ks vs : List PV) (hf : MB (ks.zip vs) (repB T.freqs)) (a0 a1 a2 b0 b1 b2 c0 c1 c2 d0 d1 d2 e0 e1 e2 e3 e4 e5 e6 e7 e8 e9 e10 e11 e12 e13 f0 f1 f2 g0 g1 g2 : PV) (pre : List Warn) (hpre : pre.length ≤ 10000) (hp : ∀ w ∈ pre, w.kind ≠ 5) (rec83) :
    lpS.run (lint_Warnings_L1 lpS rec83) (T.pv, [.rm 3 ks vs], (i : Int), T.trips.map Trip.pv, (T.trips.length : Int), (i : Int), T.trips.map Trip.pv, (T.trips.length : Int), 0, PV.str T.trips[i].id, PV.int .i64 T.trips[i].route, PV.int .i64 T.trips[i].cal, PV.bool T.trips[i].free, PV.rs 5 (T.trips[i].calls.map Kall.pv), [a0, a1, a2], [b0, b1, b2], [c0, c1, c2], [d0, d1, d2], [e0, e1, e2, e3, e4, e5, e6, e7, e8, e9, e10, e11, e12, e13], [f0, f1, f2], [g0, g1, g2], (pre ++ overL T i).map Warn.pv, ()) = rec83 (T.pv, [.rm 3 ks vs], T.trips.map Trip.pv, (T.trips.length : Int), ((i + 1 : Nat) : Int), [a0, a1, a2], [b0, b1, b2], [c0, c1, c2], [d0, d1, d2], [e0, e1, e2, e3, e4, e5, e6, e7, e8, e9, e10, e11, e12, e13], [f0, f1, f2], [g0, g1, g2], (pre ++ overL T (i + 1)).map Warn.pv, ()) := by
  have hm := maxLen_lt
  refine loop_until (fun k => (T.pv, [.rm 3 ks vs], (i : Int), T.trips.map Trip.pv, (T.trips.length : Int), (i : Int), T.trips.map Trip.pv, (T.trips.length : Int), (k : Int), PV.str T.trips[i].id, PV.int .i64 T.trips[i].route, PV.int .i64 T.trips[i].cal, PV.bool T.trips[i].free, PV.rs 5 (T.trips[i].calls.map Kall.pv), [a0, a1, a2], [b0, b1, b2], [c0, c1, c2], [d0, d1, d2], [e0, e1, e2, e3, e4, e5, e6, e7, e8, e9, e10, e11, e12, e13], [f0, f1, f2], [g0, g1, g2], (pre ++ overL T i ++ overRow T i k).map Warn.pv, ())) T.trips.length (fun k hk rec => ?_) (fun rec => ?_) ?_ (by simp [overRow])
  · have h1 := overL_len T i
    have h2 := overRow_len T i k
    have h3 : i * T.trips.length ≤ 100 * 100 := Nat.mul_le_mul (by omega) h12
    rw [rndO T hT i hi k hk ks vs hf a0 a1 a2 b0 b1 b2 c0 c1 c2 d0 d1 d2 e0 e1 e2 e3 e4 e5 e6 e7 e8 e9 e10 e11 e12 e13 f0 f1 f2 g0 g1 g2 (pre ++ overL T i ++ overRow T i k) (by simp only [List.length_append]; omega) (over_last T i k pre hp) rec83 rec, overRow_succ]
    cases overAt T i k with
    | true => simp only [if_true, List.append_assoc]
    | false => simp only [Bool.false_eq_true, if_false]
  · simp only [lint_Warnings_L1, decide_eq_true_eq, Int.lt_irrefl, if_false, List.getD_cons_zero, List.getD_cons_succ, tt0, tt1, tt2, tt3, tt4, tt5, tt6, tt7, tt8, tt9, tt10, tt11, tt12, ttE, overL_succ, List.append_assoc, wrap_nat (show i < 9223372036854775807 by omega)]
  · have := rounds_gt; have : 100000 ≤ maxLen := by decide
    omega
theorem stage4 (T : Timetable) (hT : T.Ok) (h12 : T.trips.length ≤ 100) (ks vs : List PV) (hf : MB (ks.zip vs) (repB T.freqs)) (a0 a1 a2 b0 b1 b2 c0 c1 c2 d0 d1 d2 e0 e1 e2 e3 e4 e5 e6 e7 e8 e9 e10 e11 e12 e13 f0 f1 f2 g0 g1 g2 : PV) (pre : List Warn) (hpre : pre.length ≤ 10000) (hp : ∀ w ∈ pre, w.kind ≠ 5) (nx : Int) (hx : f0 = .int .i64 nx) :
    lpS.run (lint_Warnings_L4 lpS) (T.pv, [.rm 3 ks vs], T.trips.map Trip.pv, (T.trips.length : Int), 0, [a0, a1, a2], [b0, b1, b2], [c0, c1, c2], [d0, d1, d2], [e0, e1, e2, e3, e4, e5, e6, e7, e8, e9, e10, e11, e12, e13], [f0, f1, f2], [g0, g1, g2], pre.map Warn.pv, ()) = lpS.run (lint_Warnings_L3 lpS) (PV.agg [f1], PV.agg [f2], nx, 0, [a0, a1, a2], [b0, b1, b2], [c0, c1, c2], [d0, d1, d2], [e0, e1, e2, e3, e4, e5, e6, e7, e8, e9, e10, e11, e12, e13], [f0, f1, f2], [g0, g1, g2], (pre ++ overL T T.trips.length).map Warn.pv, ()) := by
  have hm := maxLen_lt
  refine loop_until (fun k => (T.pv, [.rm 3 ks vs], T.trips.map Trip.pv, (T.trips.length : Int), (k : Int), [a0, a1, a2], [b0, b1, b2], [c0, c1, c2], [d0, d1, d2], [e0, e1, e2, e3, e4, e5, e6, e7, e8, e9, e10, e11, e12, e13], [f0, f1, f2], [g0, g1, g2], (pre ++ overL T k).map Warn.pv, ())) T.trips.length (fun k hk rec => ?_) (fun rec => ?_) ?_ (by simp [overL])
  · have h1 : (k : Int) < (T.trips.length : Int) := by omega
    have hin := over_in_run T hT h12 k hk ks vs hf a0 a1 a2 b0 b1 b2 c0 c1 c2 d0 d1 d2 e0 e1 e2 e3 e4 e5 e6 e7 e8 e9 e10 e11 e12 e13 f0 f1 f2 g0 g1 g2 pre hpre hp rec
    rw [← hin]
    simp only [lint_Warnings_L4, decide_eq_true_eq, h1, if_true, idxP_nat, List.getElem?_map, List.getElem?_eq_getElem hk, Option.map_some, bind_some', asSl, trip0, trip1, trip2, trip3, trip4, List.getD_cons_zero, List.getD_cons_succ, tt0, tt1, tt2, tt3, tt4, tt5, tt6, tt7, tt8, tt9, tt10, tt11, tt12, ttE, List.length_map]
  · subst hx
    simp only [lint_Warnings_L4, decide_eq_true_eq, Int.lt_irrefl, if_false, List.getD_cons_zero, List.getD_cons_succ, asInt, if_true, bind_some']
  · have := rounds_gt; have : 100000 ≤ maxLen := by decide
    omega

end Go.Ab.Tt

namespace Go.Ab.Tt
set_option maxRecDepth 100000
set_option linter.unusedVariables false

theorem if_bool (c : Bool) : (if c = true then some (PV.bool true) else some (PV.bool false)) = some (PV.bool c) := by cases c <;> rfl
def usedS (T : Timetable) (s : Int) : Bool := decide (s ∈ callStops T ++ pathEnds T)
def usedC (T : Timetable) (s : Int) : Bool := decide (s ∈ T.trips.map Trip.cal)
def reachS (T : Timetable) (s : Int) : Bool := decide (s ∈ reachStops T ++ T.paths.map Path.b)
def hitC (T : Timetable) (s : Int) (k : Nat) : Bool := match T.trips[k]? with | some x => decide (s ∈ x.calls.map Kall.stop) | none => false
def hitP (T : Timetable) (s : Int) (k : Nat) : Bool := match T.paths[k]? with | some p => decide (p.a = s) || decide (p.b = s) | none => false
theorem stopUsed_in (T : Timetable) (hT : T.Ok) (s : Int) (i : Nat) (hi : i < T.trips.length) (rec16) : lpS.run (ref24_stopUsed_L1 rec16) (s, (i : Int), 0, tl T ()) = if hitC T s i = true then some (.bool true) else rec16 (s, ((i + 1 : Nat) : Int), tl T ()) := by
  have hm := maxLen_lt
  have hl := hT.trips.1
  have hcl := (hT.trips.2 _ (List.getElem_mem hi)).calls.1
  refine (dup_scan (fun k => (s, (i : Int), (k : Int), tl T ())) T.trips[i].calls.length (fun k => match T.trips[i].calls[k]? with | some c => decide (c.stop = s) | none => false) (no := some (.bool true)) (fin := rec16 (s, ((i + 1 : Nat) : Int), tl T ())) (fun k hk rec => ?_) (fun rec => ?_) ?_ rfl).trans ?_
  · have h1 : (k : Int) < (T.trips[i].calls.length : Int) := by omega
    simp only [ref24_stopUsed_L1, tl, idxP_nat, List.getElem?_map, List.getElem?_eq_getElem hi, List.getElem?_eq_getElem hk, Option.map_some, bind_some', trip4, asSl, if_true, List.length_map, decide_eq_true_eq, h1, kall0, asInt, beq_iff_eq, wrap_nat (show k < 9223372036854775807 by omega)]
  · simp only [ref24_stopUsed_L1, tl, idxP_nat, List.getElem?_map, List.getElem?_eq_getElem hi, Option.map_some, bind_some', trip4, asSl, if_true, List.length_map, decide_eq_true_eq, Int.lt_irrefl, if_false, wrap_nat (show i < 9223372036854775807 by omega)]
  · have := rounds_gt; omega
  · have : (List.range T.trips[i].calls.length).any (fun k => match T.trips[i].calls[k]? with | some c => decide (c.stop = s) | none => false) = hitC T s i := by
      unfold hitC
      rw [List.getElem?_eq_getElem hi, Bool.eq_iff_iff]
      simp only [List.any_eq_true, List.mem_range, decide_eq_true_eq, List.mem_map]
      constructor
      · rintro ⟨k, hk, h⟩
        rw [List.getElem?_eq_getElem hk] at h
        exact ⟨_, List.getElem_mem hk, of_decide_eq_true h⟩
      · rintro ⟨c, hc, h⟩
        obtain ⟨k, hk⟩ := List.mem_iff_getElem?.1 hc
        exact ⟨k, (List.getElem?_eq_some_iff.1 hk).1, by rw [hk]; exact decide_eq_true h⟩
    rw [this]
theorem stopUsed_paths (T : Timetable) (hT : T.Ok) (s : Int) : lpS.run ref24_stopUsed_L2 (s, 0, tl T ()) = some (.bool ((List.range T.paths.length).any (hitP T s))) := by
  have hm := maxLen_lt
  have hl := hT.paths.1
  refine (dup_scan (fun k => (s, (k : Int), tl T ())) T.paths.length (hitP T s) (no := some (.bool true)) (fin := some (.bool false)) (fun k hk rec => ?_) (fun rec => ?_) ?_ rfl).trans ?_
  · have h1 : (k : Int) < (T.paths.length : Int) := by omega
    simp only [ref24_stopUsed_L2, tl, List.length_map, decide_eq_true_eq, h1, if_true, idxP_nat, List.getElem?_map, List.getElem?_eq_getElem hk, Option.map_some, bind_some', path0, path1, asInt, beq_d, bif_or', wrap_nat (show k < 9223372036854775807 by omega), hitP]
  · simp only [ref24_stopUsed_L2, tl, List.length_map, decide_eq_true_eq, Int.lt_irrefl, if_false]
  · have := rounds_gt; omega
  · exact if_bool _
theorem stopUsed_ok (T : Timetable) (hT : T.Ok) (s : Int) : ref24_stopUsed_M [T.pv, .int .i64 s] = some (.bool (usedS T s)) := by
  have hm := maxLen_lt
  have hl := hT.trips.1
  have hp := stopUsed_paths T hT s
  simp only [ref24_stopUsed_M, ref24_stopUsed, ttA, tt0, tt1, tt2, tt3, tt4, tt5, tt6, tt7, tt8, tt9, tt10, tt11, tt12, asSl, asInt, if_true, bind_some']
  refine (dup_scan (fun k => (s, (k : Int), tl T ())) T.trips.length (hitC T s) (no := some (.bool true)) (fin := some (.bool ((List.range T.paths.length).any (hitP T s)))) (fun k hk rec => ?_) (fun rec => ?_) ?_ rfl).trans ?_
  · have h1 : (k : Int) < (T.trips.length : Int) := by omega
    have hin := stopUsed_in T hT s k hk rec
    simp only [tl] at hin
    simp only [ref24_stopUsed_L3, tl, List.length_map, decide_eq_true_eq, h1, if_true, hin]
  · simp only [tl] at hp
    simp only [ref24_stopUsed_L3, tl, List.length_map, decide_eq_true_eq, Int.lt_irrefl, if_false, hp]
  · have := rounds_gt; omega
  · have e1 : (List.range T.trips.length).any (hitC T s) = decide (s ∈ callStops T) := by
      rw [Bool.eq_iff_iff]
      simp only [List.any_eq_true, List.mem_range, decide_eq_true_eq, callStops, List.mem_flatMap]
      constructor
      · rintro ⟨k, hk, h⟩
        unfold hitC at h
        rw [List.getElem?_eq_getElem hk] at h
        exact ⟨_, List.getElem_mem hk, of_decide_eq_true h⟩
      · rintro ⟨x, hx, h⟩
        obtain ⟨k, hk⟩ := List.mem_iff_getElem?.1 hx
        exact ⟨k, (List.getElem?_eq_some_iff.1 hk).1, by unfold hitC; rw [hk]; exact decide_eq_true h⟩
    have e2 : (List.range T.paths.length).any (hitP T s) = decide (s ∈ pathEnds T) := by
      rw [Bool.eq_iff_iff]
      simp only [List.any_eq_true, List.mem_range, decide_eq_true_eq, pathEnds, List.mem_flatMap, List.mem_cons, List.not_mem_nil, or_false]
      constructor
      · rintro ⟨k, hk, h⟩
        unfold hitP at h
        rw [List.getElem?_eq_getElem hk, Bool.or_eq_true] at h
        refine ⟨_, List.getElem_mem hk, ?_⟩
        rcases h with h | h
        · exact .inl (of_decide_eq_true h).symm
        · exact .inr (of_decide_eq_true h).symm
      · rintro ⟨x, hx, h⟩
        obtain ⟨k, hk⟩ := List.mem_iff_getElem?.1 hx
        refine ⟨k, (List.getElem?_eq_some_iff.1 hk).1, ?_⟩
        unfold hitP; rw [hk, Bool.or_eq_true]
        rcases h with h | h
        · exact .inl (decide_eq_true h.symm)
        · exact .inr (decide_eq_true h.symm)
    rw [e1, e2]
    unfold usedS
    by_cases h1 : s ∈ callStops T <;> simp [h1]

/-- a scan over a list of ints -/
def hitG {A : Type} (l : List A) (f : A → Int) (s : Int) (k : Nat) : Bool := match l[k]? with | some x => decide (f x = s) | none => false
theorem range_mem {A : Type} (l : List A) (f : A → Int) (s : Int) : (List.range l.length).any (hitG l f s) = decide (s ∈ l.map f) := by
  rw [Bool.eq_iff_iff]
  unfold hitG
  simp only [List.any_eq_true, List.mem_range, decide_eq_true_eq, List.mem_map]
  constructor
  · rintro ⟨k, hk, h⟩
    rw [List.getElem?_eq_getElem hk] at h
    exact ⟨_, List.getElem_mem hk, of_decide_eq_true h⟩
  · rintro ⟨c, hc, h⟩
    obtain ⟨k, hk⟩ := List.mem_iff_getElem?.1 hc
    exact ⟨k, (List.getElem?_eq_some_iff.1 hk).1, by rw [hk]; exact decide_eq_true h⟩
theorem routeUsed_ok (T : Timetable) (hT : T.Ok) (s : Int) : ref24_routeUsed_M [T.pv, .int .i64 s] = some (.bool (usedR T s)) := by
  have hm := maxLen_lt
  have hl := hT.trips.1
  simp only [ref24_routeUsed_M, ref24_routeUsed, ttA, tt0, tt1, tt2, tt3, tt4, tt5, tt6, tt7, tt8, tt9, tt10, tt11, tt12, asSl, asInt, if_true, bind_some']
  refine (dup_scan (fun k => (s, (k : Int), tl T ())) T.trips.length (hitG T.trips Trip.route s) (no := some (.bool true)) (fin := some (.bool false)) (fun k hk rec => ?_) (fun rec => ?_) ?_ rfl).trans ?_
  · have h1 : (k : Int) < (T.trips.length : Int) := by omega
    simp only [ref24_routeUsed_L1, tl, List.length_map, decide_eq_true_eq, h1, if_true, idxP_nat, List.getElem?_map, List.getElem?_eq_getElem hk, Option.map_some, bind_some', trip1, asInt, beq_d, decide_eq_true_eq, hitG, wrap_nat (show k < 9223372036854775807 by omega)]
  · simp only [ref24_routeUsed_L1, tl, List.length_map, decide_eq_true_eq, Int.lt_irrefl, if_false]
  · have := rounds_gt; omega
  · rw [range_mem T.trips Trip.route s]; exact if_bool _
theorem calendarUsed_ok (T : Timetable) (hT : T.Ok) (s : Int) : ref24_calendarUsed_M [T.pv, .int .i64 s] = some (.bool (usedC T s)) := by
  have hm := maxLen_lt
  have hl := hT.trips.1
  simp only [ref24_calendarUsed_M, ref24_calendarUsed, ttA, tt0, tt1, tt2, tt3, tt4, tt5, tt6, tt7, tt8, tt9, tt10, tt11, tt12, asSl, asInt, if_true, bind_some']
  refine (dup_scan (fun k => (s, (k : Int), tl T ())) T.trips.length (hitG T.trips Trip.cal s) (no := some (.bool true)) (fin := some (.bool false)) (fun k hk rec => ?_) (fun rec => ?_) ?_ rfl).trans ?_
  · have h1 : (k : Int) < (T.trips.length : Int) := by omega
    simp only [ref24_calendarUsed_L1, tl, List.length_map, decide_eq_true_eq, h1, if_true, idxP_nat, List.getElem?_map, List.getElem?_eq_getElem hk, Option.map_some, bind_some', trip2, asInt, beq_d, decide_eq_true_eq, hitG, wrap_nat (show k < 9223372036854775807 by omega)]
  · simp only [ref24_calendarUsed_L1, tl, List.length_map, decide_eq_true_eq, Int.lt_irrefl, if_false]
  · have := rounds_gt; omega
  · rw [range_mem T.trips Trip.cal s]; exact if_bool _
theorem repeated_ok (fs : List Freq) (hl : fs.length ≤ maxLen) (t : Int) : ref18_Repeated_M [.rs 4 (fs.map Freq.pv), .int .i64 t] = some (.bool (repB fs t)) := by
  have hm := maxLen_lt
  simp only [ref18_Repeated_M, ref18_Repeated, asSl, asInt, if_true, bind_some']
  refine (dup_scan (fun k => (fs.map Freq.pv, t, (k : Int), ())) fs.length (hitG fs Freq.trip t) (no := some (.bool true)) (fin := some (.bool false)) (fun k hk rec => ?_) (fun rec => ?_) ?_ rfl).trans ?_
  · have h1 : (k : Int) < (fs.length : Int) := by omega
    simp only [ref18_Repeated_L1, List.length_map, decide_eq_true_eq, h1, if_true, idxP_nat, List.getElem?_map, List.getElem?_eq_getElem hk, Option.map_some, bind_some', freq0, asInt, beq_d, decide_eq_true_eq, hitG, wrap_nat (show k < 9223372036854775807 by omega)]
  · simp only [ref18_Repeated_L1, List.length_map, decide_eq_true_eq, Int.lt_irrefl, if_false]
  · have := rounds_gt; omega
  · rw [range_mem fs Freq.trip t]; exact if_bool _
theorem paid_ok (T : Timetable) (hT : T.Ok) (m : Int) (h : 0 ≤ m ∧ m < 8) : ref24_paid_M [T.pv, .int .i64 m] = some (.bool (paidB T m)) := by
  have hm := maxLen_lt
  have hl := hT.prods.1
  simp only [ref24_paid_M, ref24_paid, ttA, tt0, tt1, tt2, tt3, tt4, tt5, tt6, tt7, tt8, tt9, tt10, tt11, tt12, asSl, asInt, if_true, bind_some']
  refine (dup_scan (fun k => (m, (k : Int), tl T ())) T.prods.length (fun k => match T.prods[k]? with | some x => bitI x.modes m | none => false) (no := some (.bool true)) (fin := some (.bool false)) (fun k hk rec => ?_) (fun rec => ?_) ?_ rfl).trans ?_
  · have h1 : (k : Int) < (T.prods.length : Int) := by omega
    simp only [ref24_paid_L1, tl, List.length_map, decide_eq_true_eq, h1, if_true, idxP_nat, List.getElem?_map, List.getElem?_eq_getElem hk, Option.map_some, bind_some', prdt5, asInt, asBool, bit_ref _ _ h, wrap_nat (show k < 9223372036854775807 by omega)]
  · simp only [ref24_paid_L1, tl, List.length_map, decide_eq_true_eq, Int.lt_irrefl, if_false]
  · have := rounds_gt; omega
  · have : (List.range T.prods.length).any (fun k => match T.prods[k]? with | some x => bitI x.modes m | none => false) = paidB T m := by
      unfold paidB
      rw [Bool.eq_iff_iff]
      simp only [List.any_eq_true, List.mem_range]
      constructor
      · rintro ⟨k, hk, h⟩
        rw [List.getElem?_eq_getElem hk] at h
        exact ⟨_, List.getElem_mem hk, h⟩
      · rintro ⟨c, hc, h⟩
        obtain ⟨k, hk⟩ := List.mem_iff_getElem?.1 hc
        exact ⟨k, (List.getElem?_eq_some_iff.1 hk).1, by rw [hk]; exact h⟩
    rw [this]; exact if_bool _

/-! ### reached -/
def hitA (T : Timetable) (s : Int) (k : Nat) : Bool := match T.trips[k]? with | some x => decide (s ∈ aliStops x.calls x.calls.length) | none => false
def aliAt (l : List Kall) (s : Int) (m : Nat) : Bool := match l[m + 1]? with | some c => decide (c.stop = s) && c.alight | none => false
theorem ali_any (l : List Kall) (s : Int) : (List.range (l.length - 1)).any (aliAt l s) = decide (s ∈ aliStops l l.length) := by
  rw [Bool.eq_iff_iff]
  simp only [List.any_eq_true, List.mem_range, decide_eq_true_eq, aliStops, List.mem_filterMap]
  constructor
  · rintro ⟨k, hk, h⟩
    have hk' : k + 1 < l.length := by omega
    unfold aliAt at h
    rw [List.getElem?_eq_getElem hk', Bool.and_eq_true, decide_eq_true_eq] at h
    refine ⟨k + 1, hk', ?_⟩
    rw [List.getElem?_eq_getElem hk']
    have h0 : ((k + 1 : Nat) : Int) > 0 := by omega
    simp only [h0, decide_true, h.2, Bool.and_self, if_true, h.1]
  · rintro ⟨k, hk, h⟩
    rw [List.getElem?_eq_getElem hk] at h
    by_cases hc : (decide ((k : Int) > 0) && l[k].alight) = true
    · simp only [hc, if_true, Option.some.injEq] at h
      rw [Bool.and_eq_true, decide_eq_true_eq] at hc
      refine ⟨k - 1, by omega, ?_⟩
      unfold aliAt
      rw [show k - 1 + 1 = k by omega, List.getElem?_eq_getElem hk]
      simp only [h, hc.2, decide_true, Bool.and_self]
    · simp only [hc, if_false, Bool.false_eq_true] at h
      cases h
theorem reached_in (T : Timetable) (hT : T.Ok) (s : Int) (i : Nat) (hi : i < T.trips.length) (rec16) : lpS.run (ref24_reached_L1 rec16) (s, (i : Int), 1, tl T ()) = if hitA T s i = true then some (.bool true) else rec16 (s, ((i + 1 : Nat) : Int), tl T ()) := by
  have hm := maxLen_lt
  have hl := hT.trips.1
  have hcl := (hT.trips.2 _ (List.getElem_mem hi)).calls.1
  refine (dup_scan (fun k => (s, (i : Int), ((k + 1 : Nat) : Int), tl T ())) (T.trips[i].calls.length - 1) (aliAt T.trips[i].calls s) (no := some (.bool true)) (fin := rec16 (s, ((i + 1 : Nat) : Int), tl T ())) (fun k hk rec => ?_) (fun rec => ?_) ?_ rfl).trans ?_
  · have h1 : ((k + 1 : Nat) : Int) < (T.trips[i].calls.length : Int) := by omega
    have hk' : k + 1 < T.trips[i].calls.length := by omega
    simp only [ref24_reached_L1, tl, idxP_nat, List.getElem?_map, List.getElem?_eq_getElem hi, List.getElem?_eq_getElem hk', Option.map_some, bind_some', trip4, asSl, if_true, List.length_map, decide_eq_true_eq, h1, kall0, kall4, asInt, asBool, beq_d, bif_and, wrap_nat (show k + 1 < 9223372036854775807 by omega), aliAt]
  · have h1 : ¬ ((T.trips[i].calls.length - 1 + 1 : Nat) : Int) < (T.trips[i].calls.length : Int) := by omega
    simp only [ref24_reached_L1, tl, idxP_nat, List.getElem?_map, List.getElem?_eq_getElem hi, Option.map_some, bind_some', trip4, asSl, if_true, List.length_map, decide_eq_true_eq, h1, if_false, wrap_nat (show i < 9223372036854775807 by omega)]
  · have := rounds_gt; omega
  · rw [ali_any]
    have : hitA T s i = decide (s ∈ aliStops T.trips[i].calls T.trips[i].calls.length) := by unfold hitA; rw [List.getElem?_eq_getElem hi]
    rw [this]
theorem reached_paths (T : Timetable) (hT : T.Ok) (s : Int) : lpS.run ref24_reached_L2 (s, 0, tl T ()) = some (.bool (decide (s ∈ T.paths.map Path.b))) := by
  have hm := maxLen_lt
  have hl := hT.paths.1
  refine (dup_scan (fun k => (s, (k : Int), tl T ())) T.paths.length (hitG T.paths Path.b s) (no := some (.bool true)) (fin := some (.bool false)) (fun k hk rec => ?_) (fun rec => ?_) ?_ rfl).trans ?_
  · have h1 : (k : Int) < (T.paths.length : Int) := by omega
    simp only [ref24_reached_L2, tl, List.length_map, decide_eq_true_eq, h1, if_true, idxP_nat, List.getElem?_map, List.getElem?_eq_getElem hk, Option.map_some, bind_some', path1, asInt, beq_d, decide_eq_true_eq, hitG, wrap_nat (show k < 9223372036854775807 by omega)]
  · simp only [ref24_reached_L2, tl, List.length_map, decide_eq_true_eq, Int.lt_irrefl, if_false]
  · have := rounds_gt; omega
  · rw [range_mem T.paths Path.b s]; exact if_bool _
theorem reached_ok (T : Timetable) (hT : T.Ok) (s : Int) : ref24_reached_M [T.pv, .int .i64 s] = some (.bool (reachS T s)) := by
  have hm := maxLen_lt
  have hl := hT.trips.1
  have hp := reached_paths T hT s
  simp only [ref24_reached_M, ref24_reached, ttA, tt0, tt1, tt2, tt3, tt4, tt5, tt6, tt7, tt8, tt9, tt10, tt11, tt12, asSl, asInt, if_true, bind_some']
  refine (dup_scan (fun k => (s, (k : Int), tl T ())) T.trips.length (hitA T s) (no := some (.bool true)) (fin := some (.bool (decide (s ∈ T.paths.map Path.b)))) (fun k hk rec => ?_) (fun rec => ?_) ?_ rfl).trans ?_
  · have h1 : (k : Int) < (T.trips.length : Int) := by omega
    have hin := reached_in T hT s k hk rec
    simp only [tl] at hin
    simp only [ref24_reached_L3, tl, List.length_map, decide_eq_true_eq, h1, if_true, hin]
  · simp only [tl] at hp
    simp only [ref24_reached_L3, tl, List.length_map, decide_eq_true_eq, Int.lt_irrefl, if_false, hp]
  · have := rounds_gt; omega
  · have e1 : (List.range T.trips.length).any (hitA T s) = decide (s ∈ reachStops T) := by
      rw [Bool.eq_iff_iff]
      simp only [List.any_eq_true, List.mem_range, decide_eq_true_eq, reachStops, List.mem_flatMap]
      constructor
      · rintro ⟨k, hk, h⟩
        unfold hitA at h
        rw [List.getElem?_eq_getElem hk] at h
        exact ⟨_, List.getElem_mem hk, of_decide_eq_true h⟩
      · rintro ⟨x, hx, h⟩
        obtain ⟨k, hk⟩ := List.mem_iff_getElem?.1 hx
        exact ⟨k, (List.getElem?_eq_some_iff.1 hk).1, by unfold hitA; rw [hk]; exact decide_eq_true h⟩
    rw [e1]
    unfold reachS
    by_cases h1 : s ∈ reachStops T <;> simp [h1]
theorem overtakes_ok (T : Timetable) (hT : T.Ok) (hs : Small T) (i k : Nat) (hi : i < T.trips.length) (hk : k < T.trips.length) : ref24_overtakes_M [T.pv, .int .i64 i, .int .i64 k] = some (.bool (overAt T i k)) := by
  have ho := over_ok_ref T.trips[i] T.trips[k] (hT.trips.2 _ (List.getElem_mem hi)) (hT.trips.2 _ (List.getElem_mem hk)) (hs _ (List.getElem_mem hi))
  simp only [ref24_overtakes_M, ref24_overtakes, ttA, tt0, tt1, tt2, tt3, tt4, tt5, tt6, tt7, tt8, tt9, tt10, tt11, tt12, asSl, asInt, asBool, if_true, bind_some', idxP_nat, List.getElem?_map, List.getElem?_eq_getElem hi, List.getElem?_eq_getElem hk, Option.map_some, trip0, trip1, trip2, trip3, trip4, tripE, ho, repeated_ok T.freqs hT.freqs.1, bif_and, bne_d, beq_d]
  unfold overAt
  rw [List.getElem?_eq_getElem hi, List.getElem?_eq_getElem hk]

/-! ### whether a warning applies -/
def holdsB (T : Timetable) (w : Warn) : Bool :=
  if (decide (w.a < 0) || (!decide (w.kind = 5) && !decide (w.b = 0))) = true then false
  else if w.kind = 1 then decide (w.a < (T.stops.length : Int)) && !usedS T w.a
  else if w.kind = 2 then decide (w.a < (T.routes.length : Int)) && !usedR T w.a
  else if w.kind = 3 then decide (w.a < (T.cals.length : Int)) && !usedC T w.a
  else if w.kind = 4 then decide (w.a < (T.trips.length : Int)) && !runsAt T w.a.toNat
  else if w.kind = 5 then decide (w.a < (T.trips.length : Int)) && decide (w.b ≥ 0) && decide (w.b < (T.trips.length : Int)) && overAt T w.a.toNat w.b.toNat
  else if w.kind = 6 then decide (w.a < (T.stops.length : Int)) && !reachS T w.a
  else if w.kind = 7 then decide (w.a < (T.routes.length : Int)) && usedR T w.a && !fineAt T w.a.toNat
  else false
def ModesOk (T : Timetable) : Prop := ∀ r ∈ T.routes, 0 ≤ r.mode ∧ r.mode < 8
theorem holds_ok (T : Timetable) (hT : T.Ok) (hs : Small T) (hr : ModesOk T) (w : Warn) : ref24_Holds_M [T.pv, w.pv] = some (.bool (holdsB T w)) := by
  simp only [ref24_Holds_M, ref24_Holds, ttA, tt0, tt1, tt2, tt3, tt4, tt5, tt6, tt7, tt8, tt9, tt10, tt11, tt12, warnA, warn0, warn1, warn2, asSl, asInt, asBool, if_true, bind_some', ttE, stopUsed_ok T hT, routeUsed_ok T hT, calendarUsed_ok T hT, reached_ok T hT, bif_and, bif_or', bne_d, beq_d, decide_eq_true_eq, List.length_map]
  unfold holdsB
  by_cases h0 : (decide (w.a < 0) || (!decide (w.kind = 5) && !decide (w.b = 0))) = true
  · simp only [h0, if_true]
  simp only [h0, if_false, Bool.false_eq_true]
  have ha : ¬ w.a < 0 := fun h => h0 (by simp [h])
  obtain ⟨n, hn⟩ : ∃ n : Nat, w.a = n := ⟨w.a.toNat, by omega⟩
  by_cases h1 : w.kind = 1
  · simp only [h1, if_true]
  simp only [h1, if_false]
  by_cases h2 : w.kind = 2
  · simp only [h2, if_true]
  simp only [h2, if_false]
  by_cases h3 : w.kind = 3
  · simp only [h3, if_true]
  simp only [h3, if_false]
  by_cases h4 : w.kind = 4
  · simp only [h4, if_true]
    by_cases hlt : n < T.trips.length
    · have : ¬ ((n : Int) ≥ (T.trips.length : Int)) := by omega
      have h6 : ((n : Int) < (T.trips.length : Int)) := by omega
      obtain ⟨d, hd⟩ := nextD_tup (nextD T.cals T.excs T.trips[n].cal)
      simp only [hn, this, if_false, h6, decide_true, Bool.true_and, idxP_nat, List.getElem?_map, List.getElem?_eq_getElem hlt, Option.map_some, bind_some', trip2, asInt, if_true, next_ref' T.cals hT.cals.1 T.excs hT.excs.1, hd, asTup, List.length_cons, List.length_nil, Nat.reduceAdd, List.getD_cons_zero, List.getD_cons_succ, asBool, Int.toNat_natCast]
      unfold runsAt
      rw [List.getElem?_eq_getElem hlt]
    · have : ((n : Int) ≥ (T.trips.length : Int)) := by omega
      have h6 : ¬ ((n : Int) < (T.trips.length : Int)) := by omega
      simp only [hn, this, if_true, h6, decide_false, Bool.false_and]
  simp only [h4, if_false]
  by_cases h5 : w.kind = 5
  · simp only [h5, if_true]
    by_cases hc : (decide (w.a < (T.trips.length : Int)) && decide (w.b ≥ 0) && decide (w.b < (T.trips.length : Int))) = true
    · have hc' := hc
      simp only [Bool.and_eq_true, decide_eq_true_eq] at hc'
      obtain ⟨k, hk⟩ : ∃ k : Nat, w.b = k := ⟨w.b.toNat, by omega⟩
      rw [hc]
      have := overtakes_ok T hT hs n k (by omega) (by omega)
      simp only [cond_true, hn, hk, this, bind_some', Bool.true_and, Int.toNat_natCast]
    · rw [Bool.not_eq_true] at hc
      rw [hc]
      simp only [cond_false, bind_some', Bool.false_and]
  simp only [h5, if_false]
  by_cases h6 : w.kind = 6
  · simp only [h6, if_true]
  simp only [h6, if_false]
  by_cases h7 : w.kind = 7
  · simp only [h7, if_true]
    by_cases hc : (decide (w.a < (T.routes.length : Int)) && usedR T w.a) = true
    · have hc' := hc
      simp only [Bool.and_eq_true, decide_eq_true_eq] at hc'
      have hlt : n < T.routes.length := by omega
      have hp := paid_ok T hT T.routes[n].mode (hr _ (List.getElem_mem hlt))
      have hf : fineAt T n = paidB T T.routes[n].mode := by unfold fineAt; rw [List.getElem?_eq_getElem hlt]
      rw [hc]
      simp only [cond_true, hn, idxP_nat, List.getElem?_map, List.getElem?_eq_getElem hlt, Option.map_some, bind_some', route1, asInt, if_true, hp, asBool, Bool.true_and, Int.toNat_natCast, hf]
    · rw [Bool.not_eq_true] at hc
      rw [hc]
      simp only [cond_false, bind_some', Bool.false_and]
  simp only [h7, if_false]
end Go.Ab.Tt

namespace Go.Ab.Tt
set_option maxRecDepth 100000
set_option linter.unusedVariables false

/-! ### valid timetables -/
def ttOk (T : Timetable) : Bool := (List.range 10).all fun p => decide ((partRes T p).2 = 0)
theorem valid_iff (T : Timetable) : ttOk T = true ↔ ∀ p, p < 10 → (partRes T p).2 = 0 := by
  unfold ttOk
  rw [List.all_eq_true]
  simp only [List.mem_range, decide_eq_true_eq]
theorem whole_form (T : Timetable) : ∃ p i e, orFin ((List.range 10).findSome? (partBad T)) (some (whole3 0 0 0)) = some (whole3 p i e) ∧ (e = 0 ↔ ttOk T = true) := by
  rw [valid_iff]
  cases hf : (List.range 10).findSome? (partBad T) with
  | none =>
    refine ⟨0, 0, 0, rfl, ?_⟩
    rw [List.findSome?_eq_none_iff] at hf
    refine ⟨fun _ p hp => ?_, fun _ => rfl⟩
    have := hf p (by simpa using hp)
    unfold partBad at this
    by_cases h : (partRes T p).2 = 0
    · exact h
    · rw [if_neg h] at this; cases this
  | some r =>
    obtain ⟨p, hp, hr⟩ := List.exists_of_findSome?_eq_some hf
    unfold partBad at hr
    by_cases h : (partRes T p).2 = 0
    · rw [if_pos h] at hr; cases hr
    · rw [if_neg h] at hr
      cases hr
      refine ⟨p, (partRes T p).1, (partRes T p).2, rfl, ?_⟩
      refine ⟨fun h' => absurd h' h, fun h' => h' p (by simpa using hp)⟩
theorem if_nf (z r : Bool) : (if z = true then some (PV.bool false) else some (PV.bool r)) = some (PV.bool (!z && r)) := by cases z <;> rfl
theorem valid_ok (T : Timetable) (hT : T.Ok) (hs : Small T) : ref24_Valid_M [T.pv] = some (.bool (ttOk T)) := by
  have h0 := stop_ref T.stops hT.stops
  have h1 := route_ref T.routes hT.routes
  have h2 := cal_ref T.cals hT.cals
  have h3 := exc_ref T.excs T.cals.length hT.excs
  have h4 := trip_ref T.trips T.stops.length T.routes.length T.cals.length hT.trips
  have h5 := freq_ref T.freqs T.trips hT.trips hs hT.freqs.1
  have h6 := thr_ref T.thrs T.trips T.freqs hT.trips hT.freqs.1
  have h7 := guar_ref T.guars T.trips T.freqs T.stops.length hs hT.freqs.1
  have h8 := path_ref T.paths T.stops.length hT.paths.1
  have h9 := fares_ref T.prods T.disc T.within T.cap hT.prods
  simp only [res] at h0 h1 h2 h3 h4 h5 h6 h7 h8 h9
  have hr : List.range 10 = [0, 1, 2, 3, 4, 5, 6, 7, 8, 9] := by decide
  unfold ttOk
  rw [hr]
  simp only [ref24_Valid_M, ref24_Valid, ttA, tt0, tt1, tt2, tt3, tt4, tt5, tt6, tt7, tt8, tt9, tt10, tt11, tt12, asSl, asInt, if_true, bind_some', List.length_map, ttF, h0, h1, h2, h3, h4, h5, h6, h7, h8, h9, asTup, List.length_cons, List.length_nil, Nat.reduceAdd, List.getD_cons_zero, List.getD_cons_succ, bif_and, bif_or', bne_d, beq_d, if_nf, List.all_cons, List.all_nil, partRes, Bool.not_or, Bool.not_not, Bool.and_true, Bool.and_assoc]

theorem scanE_all (f : Nat → Int) (n : Nat) (h : (scanE f n).2 = 0) (k : Nat) (hk : k < n) : f k = 0 := by
  unfold scanE at h
  cases hf : (List.range n).findSome? (fun k => if f k = 0 then none else some ((k : Int), f k)) with
  | none =>
    rw [List.findSome?_eq_none_iff] at hf
    have := hf k (by simpa using hk)
    by_cases h0 : f k = 0
    · exact h0
    · rw [if_neg h0] at this; cases this
  | some x =>
    rw [hf] at h
    obtain ⟨j, _, hj⟩ := List.exists_of_findSome?_eq_some hf
    by_cases h0 : f j = 0
    · rw [if_pos h0] at hj; cases hj
    · rw [if_neg h0] at hj
      cases hj
      exact absurd h h0
theorem modes_ok (T : Timetable) (hv : ttOk T = true) : ModesOk T := by
  have h := (valid_iff T).1 hv 1 (by decide)
  intro r hr
  simp only [partRes] at h
  unfold routeRes at h
  by_cases h64 : T.routes.length > 64
  · rw [if_pos h64] at h; cases h
  rw [if_neg h64] at h
  obtain ⟨k, hk⟩ := List.mem_iff_getElem?.1 hr
  have hlt := (List.getElem?_eq_some_iff.1 hk).1
  have h2 := scanE_all _ _ h k hlt
  unfold routeErr at h2
  rw [hk] at h2
  simp only at h2
  by_cases c1 : validB r.id = false
  · rw [if_pos c1] at h2; cases h2
  rw [if_neg c1] at h2
  by_cases c2 : r.id ∈ (T.routes.map Route.id).take k
  · rw [if_pos c2] at h2; cases h2
  rw [if_neg c2] at h2
  by_cases c3 : (decide (r.mode ≥ 0) && decide (r.mode < 8)) = false
  · rw [if_pos c3] at h2; cases h2
  rw [Bool.not_eq_false, Bool.and_eq_true, decide_eq_true_eq, decide_eq_true_eq] at c3
  omega

/-! ### the program's list -/
def fIdle (T : Timetable) (a : Int) : Bool := if 0 ≤ a ∧ a < (T.trips.length : Int) then runsAt T a.toNat else false
def fPaid (T : Timetable) (a : Int) : Bool := if 0 ≤ a ∧ a < (T.routes.length : Int) then fine2 T a.toNat else if 0 ≤ a ∧ a < (T.routes.length : Int) then fineAt T a.toNat else false
def progW (T : Timetable) : List Warn := missW 1 (usedS T) T.stops.length ++ missW 2 (usedR T) T.routes.length ++ missW 3 (usedC T) T.cals.length ++ missW 4 (fIdle T) T.trips.length ++ overL T T.trips.length ++ missW 6 (reachS T) T.stops.length ++ missW 7 (fPaid T) T.routes.length
structure Bounds (T : Timetable) : Prop where
  stops : T.stops.length ≤ 70
  routes : T.routes.length ≤ 70
  cals : T.cals.length ≤ 70
  trips : T.trips.length ≤ 12
  small : Small T
theorem missW_kind (kind : Int) (f : Int → Bool) (n : Nat) : ∀ w ∈ missW kind f n, w.kind = kind := by
  intro w hw
  unfold missW at hw
  rw [List.mem_map] at hw
  obtain ⟨i, _, rfl⟩ := hw
  rfl
theorem overL_kind (T : Timetable) (n : Nat) : ∀ w ∈ overL T n, w.kind = 5 := by
  intro w hw
  unfold overL overRow at hw
  simp only [List.mem_flatMap, List.mem_map] at hw
  obtain ⟨i, _, j, _, rfl⟩ := hw
  rfl
theorem rd_miss (n : Nat) (m : List (PV × PV)) (kind : Int) : rdL (FS.fn 104 [FS.ptr [FS.raw], FS.ptr [FS.raw], FS.ptr [FS.raw]]) (missPV 3 n m kind) = some [.int .i64 n, .rm 3 (m.map fun x => x.1) (m.map fun x => x.2), .int .i64 kind] := by
  simp [missPV, rdL, rdLs]
theorem rd_over (T : Timetable) (m : List (PV × PV)) : rdL (FS.fn 73 [FS.ptr [FS.raw, FS.raw, FS.raw, FS.raw, FS.raw, FS.raw, FS.raw, FS.raw, FS.raw, FS.raw, FS.raw, FS.raw, FS.raw], FS.ptr [FS.fn 72 [FS.ptr [FS.raw]]]]) (overPV T m) = some [.rs 4 (T.stops.map Stop.pv), .rs 3 (T.routes.map Route.pv), .rs 10 (T.cals.map Cal.pv), .rs 3 (T.excs.map Exc.pv), .rs 5 (T.trips.map Trip.pv), .rs 4 (T.freqs.map Freq.pv), .rs 2 (T.thrs.map Thr.pv), .rs 3 (T.guars.map Guar.pv), .rs 4 (T.paths.map Path.pv), .rs 6 (T.prods.map Prdt.pv), .int .i64 T.disc, .int .i64 T.within, .int .i64 T.cap, .rm 3 (m.map fun x => x.1) (m.map fun x => x.2)] := by
  simp [overPV, rdL, rdLs]
theorem progW_len (T : Timetable) (hb : Bounds T) : (progW T).length ≤ 1000 := by
  have h1 := missW_len 1 (usedS T) T.stops.length
  have h2 := missW_len 2 (usedR T) T.routes.length
  have h3 := missW_len 3 (usedC T) T.cals.length
  have h4 := missW_len 4 (fIdle T) T.trips.length
  have h5 := overL_len T T.trips.length
  have h6 := missW_len 6 (reachS T) T.stops.length
  have h7 := missW_len 7 (fPaid T) T.routes.length
  have h8 : T.trips.length * T.trips.length ≤ 12 * 12 := Nat.mul_le_mul hb.trips hb.trips
  have := hb.stops; have := hb.routes; have := hb.cals; have := hb.trips
  unfold progW
  simp only [List.length_append]
  omega
theorem asSl_rs (sz : Nat) (l : List PV) : asSl sz (.rs sz l) = some l := by simp [asSl]
theorem asI64 (n : Int) : asInt .i64 (.int .i64 n) = some n := by simp [asInt]
theorem asTup3 (a b c : Int) : asTup 3 (whole3 a b c) = some [.int .i64 a, .int .i64 b, .int .i64 c] := rfl
theorem get3_0 (a b c : PV) : [a, b, c].getD 0 PV.bad = a := rfl
theorem get3_1 (a b c : PV) : [a, b, c].getD 1 PV.bad = b := rfl
theorem get3_2 (a b c : PV) : [a, b, c].getD 2 PV.bad = c := rfl
theorem if_false_t {A : Type} (a b : A) : (if false = true then a else b) = b := by simp
theorem warnings_prog (T : Timetable) (hT : T.Ok) (hb : Bounds T) : lint_Warnings_M [T.pv] = some (.rs 3 ((if ttOk T = true then progW T else []).map Warn.pv)) := by
  obtain ⟨p, i, e, hw, he⟩ := whole_form T
  show lint_Warnings lpS T.pv = _
  unfold lint_Warnings
  rw [ttA, bind_some', tt0, asSl_rs, bind_some', tt1, asSl_rs, bind_some', tt2, asSl_rs, bind_some', tt3, asSl_rs, bind_some', tt4, asSl_rs, bind_some', tt5, asSl_rs, bind_some', tt6, asSl_rs, bind_some', tt7, asSl_rs, bind_some', tt8, asSl_rs, bind_some', tt9, asSl_rs, bind_some', tt10, asI64, bind_some', tt11, asI64, bind_some', tt12, asI64, bind_some', ttE, whole_prog T hT hb.small, hw, bind_some', asTup3, bind_some', get3_0, asI64, bind_some', get3_1, asI64, bind_some', get3_2, asI64, bind_some']
  by_cases h0 : e = 0
  · have hv := he.1 h0
    have hbs := hb.stops; have hbr := hb.routes; have hbc := hb.cals; have hbt := hb.trips
    have l1 := missW_len 1 (usedS T) T.stops.length
    have l2 := missW_len 2 (usedR T) T.routes.length
    have l3 := missW_len 3 (usedC T) T.cals.length
    have l4 := missW_len 4 (fIdle T) T.trips.length
    have l5 := overL_len T T.trips.length
    have l6 := missW_len 6 (reachS T) T.stops.length
    have l8 : T.trips.length * T.trips.length ≤ 12 * 12 := Nat.mul_le_mul hb.trips hb.trips
    have b1 : MB (((putsM (callStops T ++ pathEnds T) []).map fun x => x.1).zip ((putsM (callStops T ++ pathEnds T) []).map fun x => x.2)) (usedS T) := by rw [zip_ks]; exact MB.ofPuts _
    have b2 : MB (((putsM (T.trips.map Trip.route) []).map fun x => x.1).zip ((putsM (T.trips.map Trip.route) []).map fun x => x.2)) (usedR T) := by rw [zip_ks]; exact MB.ofPuts _
    have b3 : MB (((putsM (T.trips.map Trip.cal) []).map fun x => x.1).zip ((putsM (T.trips.map Trip.cal) []).map fun x => x.2)) (usedC T) := by rw [zip_ks]; exact MB.ofPuts _
    have b4 : MB (((passM (runsAt T) T.trips.length []).map fun x => x.1).zip ((passM (runsAt T) T.trips.length []).map fun x => x.2)) (fIdle T) := by rw [zip_ks]; exact MB.nil.pass _ _
    have b5 : MB (((putsM (T.freqs.map Freq.trip) []).map fun x => x.1).zip ((putsM (T.freqs.map Freq.trip) []).map fun x => x.2)) (repB T.freqs) := by rw [zip_ks]; exact MB.ofPuts _
    have b6 : MB (((putsM (reachStops T ++ T.paths.map Path.b) []).map fun x => x.1).zip ((putsM (reachStops T ++ T.paths.map Path.b) []).map fun x => x.2)) (reachS T) := by rw [zip_ks]; exact MB.ofPuts _
    have b7 : MB (((passM (fine2 T) T.routes.length (passM (fineAt T) T.routes.length [])).map fun x => x.1).zip ((passM (fine2 T) T.routes.length (passM (fineAt T) T.routes.length [])).map fun x => x.2)) (fPaid T) := by rw [zip_ks]; exact (MB.nil.pass _ _).pass _ _
    have hne : (e != 0) = false := by rw [h0]; rfl
    rw [hne, if_false_t, stops_prog T hT, bind_some', rd_miss, bind_some', routes_prog T hT, bind_some', rd_miss, bind_some', calendars_prog T hT, bind_some', rd_miss, bind_some', idle_prog T hT, bind_some', rd_miss, bind_some', over_prog T hT, bind_some', rd_over, bind_some', unreach_prog T hT, bind_some', rd_miss, bind_some', unpaid_prog T hT (modes_ok T hv), bind_some', rd_miss, bind_some']
    simp only [List.getD_cons_zero, List.getD_cons_succ, asI64, bind_some', hv, if_true]
    have s8 := stage8 T.stops.length (by omega) _ _ 1 (usedS T) b1 [] (by simp) (by simp)
    simp only [List.map_nil, List.nil_append] at s8
    rw [s8 _ _ _ _ _ _ _ _ _ _ _ _ _ _ _ _ _ _ _ _ _ _ _ _ _ _ _ _ _ _ _ _ _ rfl]
    rw [stage7 T.routes.length (by omega) _ _ 2 (usedR T) b2 (missW 1 (usedS T) T.stops.length) (by omega) (fun w hw => by rw [missW_kind _ _ _ w hw]; decide) _ _ _ _ _ _ _ _ _ _ _ _ _ _ _ _ _ _ _ _ _ _ _ _ _ _ _ _ _ _ _ _ _ rfl]
    rw [stage6 T.cals.length (by omega) _ _ 3 (usedC T) b3 (missW 1 (usedS T) T.stops.length ++ missW 2 (usedR T) T.routes.length) (by simp only [List.length_append]; omega) (fun w hw => by
      rcases List.mem_append.1 hw with hw | hw <;> rw [missW_kind _ _ _ w hw] <;> decide) _ _ _ _ _ _ _ _ _ _ _ _ _ _ _ _ _ _ _ _ _ _ _ _ _ _ _ _ _ _ _ _ _ rfl]
    rw [stage5 T.trips.length (by omega) _ _ 4 (fIdle T) b4 (missW 1 (usedS T) T.stops.length ++ missW 2 (usedR T) T.routes.length ++ missW 3 (usedC T) T.cals.length) (by simp only [List.length_append]; omega) (fun w hw => by
      simp only [List.mem_append] at hw
      rcases hw with (hw | hw) | hw <;> rw [missW_kind _ _ _ w hw] <;> decide) _ _ _ _ _ _ _ _ _ _ _ _ _ _ _ _ _ _ _ _ _ _ _ _ _ _ _ _ _ _ _ _ (T.trips.map Trip.pv) rfl]
    rw [ttE, List.length_map]
    rw [stage4 T hT (by omega) _ _ b5 _ _ _ _ _ _ _ _ _ _ _ _ _ _ _ _ _ _ _ _ _ _ _ _ _ _ _ _ _ _ _ _ (missW 1 (usedS T) T.stops.length ++ missW 2 (usedR T) T.routes.length ++ missW 3 (usedC T) T.cals.length ++ missW 4 (fIdle T) T.trips.length) (by simp only [List.length_append]; omega) (fun w hw => by
      simp only [List.mem_append] at hw
      rcases hw with ((hw | hw) | hw) | hw <;> rw [missW_kind _ _ _ w hw] <;> decide) _ rfl]
    rw [stage3 T.stops.length (by omega) _ _ 6 (reachS T) b6 (missW 1 (usedS T) T.stops.length ++ missW 2 (usedR T) T.routes.length ++ missW 3 (usedC T) T.cals.length ++ missW 4 (fIdle T) T.trips.length ++ overL T T.trips.length) (by simp only [List.length_append]; omega) (fun w hw => by
      simp only [List.mem_append] at hw
      rcases hw with (((hw | hw) | hw) | hw) | hw
      · rw [missW_kind _ _ _ w hw]; decide
      · rw [missW_kind _ _ _ w hw]; decide
      · rw [missW_kind _ _ _ w hw]; decide
      · rw [missW_kind _ _ _ w hw]; decide
      · rw [overL_kind _ _ w hw]; decide) _ _ _ _ _ _ _ _ _ _ _ _ _ _ _ _ _ _ _ _ _ _ _ _ _ _ _ _ _ _ _ _ _ rfl]
    rw [stage2 T.routes.length (by omega) _ _ 7 (fPaid T) b7 (missW 1 (usedS T) T.stops.length ++ missW 2 (usedR T) T.routes.length ++ missW 3 (usedC T) T.cals.length ++ missW 4 (fIdle T) T.trips.length ++ overL T T.trips.length ++ missW 6 (reachS T) T.stops.length) (by simp only [List.length_append]; omega) (fun w hw => by
      simp only [List.mem_append] at hw
      rcases hw with ((((hw | hw) | hw) | hw) | hw) | hw
      · rw [missW_kind _ _ _ w hw]; decide
      · rw [missW_kind _ _ _ w hw]; decide
      · rw [missW_kind _ _ _ w hw]; decide
      · rw [missW_kind _ _ _ w hw]; decide
      · rw [overL_kind _ _ w hw]; decide
      · rw [missW_kind _ _ _ w hw]; decide)]
    rfl
  · have hv : ¬ ttOk T = true := fun h => h0 (he.2 h)
    have hne : (e != 0) = true := by simpa using h0
    simp only [hne, if_true, hv, if_false, Bool.false_eq_true, List.map_nil]
end Go.Ab.Tt

namespace Go.Ab.Tt
set_option maxRecDepth 100000
set_option linter.unusedVariables false

/-! ### the document's list -/
def nbT (T : Timetable) : Nat := max T.trips.length 1
def rowW (T : Timetable) (kind : Int) (a nb : Nat) : List Warn := ((List.range nb).filter fun (b : Nat) => holdsB T ⟨kind, a, b⟩).map fun (b : Nat) => ⟨kind, a, b⟩
def kindW (T : Timetable) (kind : Int) (most : Nat) : List Warn := (List.range most).flatMap fun a => rowW T kind a (nbT T)
def refW (T : Timetable) (most n : Nat) : List Warn := (List.range n).flatMap fun (j : Nat) => kindW T ((j : Int) + 1) most
def mostT (T : Timetable) : Nat := max (max (max T.stops.length T.routes.length) T.cals.length) T.trips.length
/-! ### the lists are the same -/
theorem range_filter_one (p : Nat → Bool) (n : Nat) (hn : 1 ≤ n) (hp : ∀ k, 0 < k → p k = false) : (List.range n).filter p = if p 0 = true then [0] else [] := by
  obtain ⟨m, rfl⟩ : ∃ m, n = m + 1 := ⟨n - 1, by omega⟩
  rw [List.range_succ_eq_map, List.filter_cons, List.filter_map]
  have : (List.range m).filter (p ∘ Nat.succ) = [] := by
    rw [List.filter_eq_nil_iff]
    intro k _
    simp [hp (k + 1) (by omega)]
  rw [this]
  rfl
theorem range_filter_lt (p : Nat → Bool) (n : Nat) : ∀ m, n ≤ m → (List.range m).filter (fun k => decide (k < n) && p k) = (List.range n).filter p
  | m, h => by
    obtain ⟨d, rfl⟩ : ∃ d, m = n + d := ⟨m - n, by omega⟩
    rw [List.range_add, List.filter_append]
    have h1 : (List.range n).filter (fun k => decide (k < n) && p k) = (List.range n).filter p := by
      apply List.filter_congr
      intro k hk
      rw [List.mem_range] at hk
      simp [hk]
    have h2 : ((List.range d).map fun x => n + x).filter (fun k => decide (k < n) && p k) = [] := by
      rw [List.filter_eq_nil_iff]
      intro k hk
      rw [List.mem_map] at hk
      obtain ⟨x, _, rfl⟩ := hk
      rw [Bool.and_eq_true, decide_eq_true_eq]
      omega
    rw [h1, h2, List.append_nil]
theorem flatMap_if {A : Type} (p : Nat → Bool) (g : Nat → A) (l : List Nat) : (l.flatMap fun a => if p a = true then [g a] else []) = (l.filter p).map g := by
  induction l with
  | nil => rfl
  | cons a l ih =>
    rw [List.flatMap_cons, List.filter_cons, ih]
    cases p a <;> rfl
theorem head_neg (kind : Int) (a : Nat) : ¬ ((decide ((Warn.mk kind a 0).a < 0) || (!decide ((Warn.mk kind a 0).kind = 5) && !decide ((Warn.mk kind a 0).b = 0))) = true) := by
  have : ¬ (a : Int) < 0 := by omega
  simp [this]
theorem head_five (a b : Nat) : ¬ ((decide ((Warn.mk 5 a b).a < 0) || (!decide ((Warn.mk 5 a b).kind = 5) && !decide ((Warn.mk 5 a b).b = 0))) = true) := by
  have : ¬ (a : Int) < 0 := by omega
  simp [this]
/-- the rows of a kind of which only the first index counts -/
theorem kindW_miss (T : Timetable) (kind : Int) (hk : kind ≠ 5) (n most : Nat) (hn : n ≤ most) (f : Int → Bool) (hf : ∀ a : Nat, holdsB T ⟨kind, a, 0⟩ = (decide (a < n) && !f a)) : kindW T kind most = missW kind f n := by
  unfold kindW
  have hrow : ∀ a : Nat, rowW T kind a (nbT T) = if (decide (a < n) && !f a) = true then [⟨kind, a, 0⟩] else [] := by
    intro a
    unfold rowW
    have : (List.range (nbT T)).filter (fun (b : Nat) => holdsB T ⟨kind, a, b⟩) = if holdsB T ⟨kind, a, ((0 : Nat) : Int)⟩ = true then [0] else [] :=
      range_filter_one (fun (b : Nat) => holdsB T ⟨kind, a, b⟩) (nbT T) (by unfold nbT; omega) (fun k hk0 => by
        have hc : (decide ((a : Int) < 0) || (!decide (kind = 5) && !decide ((k : Int) = 0))) = true := by
          have : ¬ (k : Int) = 0 := by omega
          rw [decide_eq_false hk, decide_eq_false this]
          cases decide ((a : Int) < 0) <;> rfl
        unfold holdsB
        simp only [hc, if_true])
    rw [this, show ((0 : Nat) : Int) = 0 from rfl, hf a]
    cases (decide (a < n) && !f a) <;> rfl
  have : (fun a => rowW T kind a (nbT T)) = fun (a : Nat) => if (decide (a < n) && !f a) = true then [Warn.mk kind a 0] else [] := funext hrow
  rw [this, flatMap_if, range_filter_lt _ _ _ hn]
  rfl
theorem flatMap_lt {A : Type} (g : Nat → List A) (n m : Nat) (h : n ≤ m) : ((List.range m).flatMap fun a => if a < n then g a else []) = (List.range n).flatMap g := by
  obtain ⟨d, rfl⟩ : ∃ d, m = n + d := ⟨m - n, by omega⟩
  rw [List.range_add, List.flatMap_append]
  have h1 : ((List.range n).flatMap fun a => if a < n then g a else []) = (List.range n).flatMap g := by
    have : ∀ l : List Nat, (∀ x ∈ l, x < n) → (l.flatMap fun a => if a < n then g a else []) = l.flatMap g := by
      intro l
      induction l with
      | nil => intro _; rfl
      | cons a l ih =>
        intro hl
        rw [List.flatMap_cons, List.flatMap_cons, ih fun x hx => hl x (by simp [hx]), if_pos (hl a (by simp))]
    exact this _ fun x hx => by simpa using hx
  have h2 : (((List.range d).map fun x => n + x).flatMap fun a => if a < n then g a else []) = [] := by
    rw [List.flatMap_eq_nil_iff]
    intro k hk
    rw [List.mem_map] at hk
    obtain ⟨x, _, rfl⟩ := hk
    rw [if_neg (by omega)]
  rw [h1, h2, List.append_nil]
theorem kindW_over (T : Timetable) (most : Nat) (hn : T.trips.length ≤ most) : kindW T 5 most = overL T T.trips.length := by
  unfold kindW overL
  rw [← flatMap_lt _ _ _ hn]
  congr 1
  funext a
  have hh : ∀ b : Nat, holdsB T ⟨5, a, b⟩ = (decide (a < T.trips.length) && (decide (b < T.trips.length) && overAt T a b)) := by
    intro b
    unfold holdsB
    rw [if_neg (head_five a b)]
    simp only [if_false, show ¬ ((5 : Int) = 1) by decide, show ¬ ((5 : Int) = 2) by decide, show ¬ ((5 : Int) = 3) by decide, show ¬ ((5 : Int) = 4) by decide, if_true, Int.toNat_natCast]
    have h1 : decide ((b : Int) ≥ 0) = true := by simp
    have h2 : decide ((a : Int) < (T.trips.length : Int)) = decide (a < T.trips.length) := by rw [Bool.eq_iff_iff]; simp
    have h3 : decide ((b : Int) < (T.trips.length : Int)) = decide (b < T.trips.length) := by rw [Bool.eq_iff_iff]; simp
    rw [h1, h2, h3, Bool.and_true, Bool.and_assoc]
  unfold rowW overRow
  have : (fun (b : Nat) => holdsB T ⟨5, a, b⟩) = fun b => decide (a < T.trips.length) && (decide (b < T.trips.length) && overAt T a b) := funext hh
  rw [this]
  by_cases ha : a < T.trips.length
  · simp only [ha, decide_true, Bool.true_and, if_true]
    rw [range_filter_lt (overAt T a) T.trips.length (nbT T) (by unfold nbT; omega)]
  · simp only [ha, decide_false, Bool.false_and, if_false]
    have : (List.range (nbT T)).filter (fun _ => false) = [] := by rw [List.filter_eq_nil_iff]; intro k _; decide
    rw [this]; rfl
theorem lt_nat (a n : Nat) : decide ((a : Int) < (n : Int)) = decide (a < n) := by rw [Bool.eq_iff_iff]; simp
theorem same_lists (T : Timetable) : refW T (mostT T) 7 = progW T := by
  have hr : List.range 7 = [0, 1, 2, 3, 4, 5, 6] := by decide
  have k1 : kindW T 1 (mostT T) = missW 1 (usedS T) T.stops.length := kindW_miss T 1 (by decide) _ _ (by unfold mostT; omega) _ fun a => by
    unfold holdsB; rw [if_neg (head_neg _ a)]; simp only [if_false, if_true, lt_nat]
  have k2 : kindW T 2 (mostT T) = missW 2 (usedR T) T.routes.length := kindW_miss T 2 (by decide) _ _ (by unfold mostT; omega) _ fun a => by
    unfold holdsB; rw [if_neg (head_neg _ a)]; simp only [if_false, show ¬ ((2 : Int) = 1) by decide, if_true, lt_nat]
  have k3 : kindW T 3 (mostT T) = missW 3 (usedC T) T.cals.length := kindW_miss T 3 (by decide) _ _ (by unfold mostT; omega) _ fun a => by
    unfold holdsB; rw [if_neg (head_neg _ a)]; simp only [if_false, show ¬ ((3 : Int) = 1) by decide, show ¬ ((3 : Int) = 2) by decide, if_true, lt_nat]
  have k4 : kindW T 4 (mostT T) = missW 4 (fIdle T) T.trips.length := kindW_miss T 4 (by decide) _ _ (by unfold mostT; omega) _ fun a => by
    unfold holdsB fIdle
    rw [if_neg (head_neg _ a)]
    simp only [if_false, show ¬ ((4 : Int) = 1) by decide, show ¬ ((4 : Int) = 2) by decide, show ¬ ((4 : Int) = 3) by decide, if_true, lt_nat, Int.toNat_natCast]
    by_cases h : a < T.trips.length
    · have : 0 ≤ (a : Int) ∧ (a : Int) < (T.trips.length : Int) := by omega
      simp [h]
    · simp [h]
  have k5 := kindW_over T (mostT T) (by unfold mostT; omega)
  have k6 : kindW T 6 (mostT T) = missW 6 (reachS T) T.stops.length := kindW_miss T 6 (by decide) _ _ (by unfold mostT; omega) _ fun a => by
    unfold holdsB; rw [if_neg (head_neg _ a)]; simp only [if_false, show ¬ ((6 : Int) = 1) by decide, show ¬ ((6 : Int) = 2) by decide, show ¬ ((6 : Int) = 3) by decide, show ¬ ((6 : Int) = 4) by decide, show ¬ ((6 : Int) = 5) by decide, if_true, lt_nat]
  have k7 : kindW T 7 (mostT T) = missW 7 (fPaid T) T.routes.length := kindW_miss T 7 (by decide) _ _ (by unfold mostT; omega) _ fun a => by
    unfold holdsB fPaid fine2
    rw [if_neg (head_neg _ a)]
    simp only [if_false, show ¬ ((7 : Int) = 1) by decide, show ¬ ((7 : Int) = 2) by decide, show ¬ ((7 : Int) = 3) by decide, show ¬ ((7 : Int) = 4) by decide, show ¬ ((7 : Int) = 5) by decide, show ¬ ((7 : Int) = 6) by decide, if_true, lt_nat, Int.toNat_natCast]
    by_cases h : a < T.routes.length
    · have : 0 ≤ (a : Int) ∧ (a : Int) < (T.routes.length : Int) := by omega
      simp only [this, and_self, if_true]
      cases usedR T a <;> cases fineAt T a <;> simp [h]
    · simp [h]
  unfold refW progW
  rw [hr]
  simp only [List.flatMap_cons, List.flatMap_nil, List.append_nil]
  show kindW T 1 (mostT T) ++ (kindW T 2 (mostT T) ++ (kindW T 3 (mostT T) ++ (kindW T 4 (mostT T) ++ (kindW T 5 (mostT T) ++ (kindW T 6 (mostT T) ++ kindW T 7 (mostT T)))))) = _
  rw [k1, k2, k3, k4, k5, k6, k7]
  simp only [List.append_assoc]
end Go.Ab.Tt

namespace Go.Ab.Tt
set_option maxRecDepth 1000000
set_option linter.unusedVariables false

theorem exampleHolds24 : law24_exampleHolds_M [] = some (.bool true) := by kernel_rfl

def manyN (fs : List Freq) : Int := fs.foldl (fun n f => if soundB f = true then IntKind.i64.wrap (n + cntF f) else n) 0
theorem many_ok (fs : List Freq) (hl : fs.length ≤ maxLen) (most : Int) : ∃ b, ref18_Many_M [.rs 4 (fs.map Freq.pv), .int .i64 most] = some (.bool b) := by
  have hm := maxLen_lt
  simp only [ref18_Many_M, ref18_Many, asSl, asInt, if_true, bind_some', List.length_map]
  by_cases h : (fs.length : Int) > 100
  · exact ⟨true, by simp only [h, decide_true, if_true]⟩
  · refine ⟨decide (manyN fs > most), ?_⟩
    simp only [h, decide_false, Bool.false_eq_true, if_false]
    refine loop_until (fun k => (fs.map Freq.pv, most, manyN (fs.take k), (k : Int), ())) fs.length (fun k hk rec => ?_) (fun rec => ?_) ?_ rfl
    · have h1 : (k : Int) < (fs.length : Int) := by omega
      have hs : manyN (fs.take (k + 1)) = if soundB fs[k] = true then IntKind.i64.wrap (manyN (fs.take k) + cntF fs[k]) else manyN (fs.take k) := by
        rw [take_succ' _ _ hk]; simp only [manyN, List.foldl_append, List.foldl_cons, List.foldl_nil]
      rw [hs]
      simp only [ref18_Many_L1, decide_eq_true_eq, List.length_map, h1, if_true, idxP_nat, List.getElem?_map, List.getElem?_eq_getElem hk, Option.map_some, bind_some', freq0, freq1, freq2, freq3, freqE, fsound_ref, asBool, wrap_nat (show k < 9223372036854775807 by omega)]
      cases hb : soundB fs[k] with
      | true => simp only [if_true, cnt_ref _ hb, bind_some', asInt]
      | false => simp only [Bool.false_eq_true, if_false]
    · simp only [ref18_Many_L1, decide_eq_true_eq, List.length_map, Int.lt_irrefl, if_false, List.take_length]
    · have := rounds_gt; omega
theorem large_ok (T : Timetable) (hT : T.Ok) : ∃ b, ref24_Large_M [T.pv] = some (.bool b) ∧ (b = false → Bounds T) := by
  have hm := maxLen_lt
  have hl := hT.trips.1
  obtain ⟨bm, hbm⟩ := many_ok T.freqs hT.freqs.1 600
  simp only [ref24_Large_M, ref24_Large, ttA, tt0, tt1, tt2, tt3, tt4, tt5, tt6, tt7, tt8, tt9, tt10, tt11, tt12, asSl, asInt, asBool, if_true, bind_some', List.length_map, bif_or', hbm]
  by_cases hb : (decide ((T.stops.length : Int) > 70) || decide ((T.routes.length : Int) > 70) || decide ((T.cals.length : Int) > 70) || decide ((T.excs.length : Int) > 40) || decide ((T.trips.length : Int) > 12) || decide ((T.thrs.length : Int) > 40) || decide ((T.guars.length : Int) > 40) || decide ((T.paths.length : Int) > 60) || decide ((T.prods.length : Int) > 20) || bm) = true
  · exact ⟨true, by simp only [hb, if_true], fun h => by cases h⟩
  · rw [Bool.not_eq_true] at hb
    simp only [hb, Bool.false_eq_true, if_false]
    simp only [Bool.or_eq_false_iff, decide_eq_false_iff_not] at hb
    refine ⟨(List.range T.trips.length).any fun k => match T.trips[k]? with | some x => decide ((x.calls.length : Int) > 40) | none => false, ?_, fun h => ?_⟩
    · refine (dup_scan (fun k => ((k : Int), tl T ())) T.trips.length (fun k => match T.trips[k]? with | some x => decide ((x.calls.length : Int) > 40) | none => false) (no := some (.bool true)) (fin := some (.bool false)) (fun k hk rec => ?_) (fun rec => ?_) ?_ rfl).trans (if_bool _)
      · have h1 : (k : Int) < (T.trips.length : Int) := by omega
        simp only [ref24_Large_L1, tl, decide_eq_true_eq, List.length_map, h1, if_true, idxP_nat, List.getElem?_map, List.getElem?_eq_getElem hk, Option.map_some, bind_some', trip4, asSl, wrap_nat (show k < 9223372036854775807 by omega)]
      · simp only [ref24_Large_L1, tl, decide_eq_true_eq, List.length_map, Int.lt_irrefl, if_false]
      · have := rounds_gt; omega
    · refine ⟨by omega, by omega, by omega, by omega, fun y hy => ?_⟩
      obtain ⟨k, hk⟩ := List.mem_iff_getElem?.1 hy
      have hlt := (List.getElem?_eq_some_iff.1 hk).1
      rw [List.any_eq_false] at h
      have := h k (by simpa using hlt)
      rw [hk] at this
      simp only [decide_eq_true_eq] at this
      omega
end Go.Ab.Tt
namespace Go.Ab.Tt
set_option maxRecDepth 1000000
set_option linter.unusedVariables false

theorem stop0 (x : Stop) : cell x.pv 0 = .str x.id := rfl
theorem route0 (x : Route) : cell x.pv 0 = .str x.id := rfl
def inN (a : Int) (n : Nat) : Bool := decide (a ≥ 0) && decide (a < (n : Int))
theorem in_text (a : Int) (n : Nat) : lint_Text_1_M [.int .i64 a, .int .i64 n] = some (.bool (inN a n)) := by
  simp only [lint_Text_1_M, lint_Text_1, asInt, if_true, bind_some', bif_and, inN]
theorem in_nat {a : Int} {n : Nat} (h : inN a n = true) : ∃ k : Nat, a = k ∧ k < n := by
  unfold inN at h
  rw [Bool.and_eq_true, decide_eq_true_eq, decide_eq_true_eq] at h
  exact ⟨a.toNat, by omega, by omega⟩
def idS (T : Timetable) (a : Int) : Bytes := match T.stops[a.toNat]? with | some x => x.id | none => []
def idR (T : Timetable) (a : Int) : Bytes := match T.routes[a.toNat]? with | some x => x.id | none => []
def idC (T : Timetable) (a : Int) : Bytes := match T.cals[a.toNat]? with | some x => x.id | none => []
def idT (T : Timetable) (a : Int) : Bytes := match T.trips[a.toNat]? with | some x => x.id | none => []
structure IdsOk (T : Timetable) : Prop where
  stops : ∀ x ∈ T.stops, x.id.length ≤ 1048576
  routes : ∀ x ∈ T.routes, x.id.length ≤ 1048576
  cals : ∀ x ∈ T.cals, x.id.length ≤ 1048576
  trips : ∀ x ∈ T.trips, x.id.length ≤ 1048576
theorem room_text (n : Nat) (h : n ≤ 100000000) {A : Type} (a b : A) : (if lpS.room n = true then a else b) = a := by
  rw [if_pos (lpS_room n (by omega))]

def textT (T : Timetable) (w : Warn) : Bytes :=
  if w.kind = 5 then (if (!inN w.a T.trips.length || !inN w.b T.trips.length) = true then [] else [116, 114, 105, 112, 32] ++ idT T w.a ++ [32, 111, 118, 101, 114, 116, 97, 107, 101, 115, 32, 116, 114, 105, 112, 32] ++ idT T w.b)
  else if w.b ≠ 0 then []
  else if w.kind = 1 then (if inN w.a T.stops.length = true then [115, 116, 111, 112, 32] ++ idS T w.a ++ [32, 105, 115, 32, 110, 111, 116, 32, 117, 115, 101, 100] else [])
  else if w.kind = 6 then (if inN w.a T.stops.length = true then [115, 116, 111, 112, 32] ++ idS T w.a ++ [32, 99, 97, 110, 110, 111, 116, 32, 98, 101, 32, 114, 101, 97, 99, 104, 101, 100] else [])
  else if w.kind = 2 then (if inN w.a T.routes.length = true then [114, 111, 117, 116, 101, 32] ++ idR T w.a ++ [32, 105, 115, 32, 110, 111, 116, 32, 117, 115, 101, 100] else [])
  else if w.kind = 7 then (if inN w.a T.routes.length = true then [114, 111, 117, 116, 101, 32] ++ idR T w.a ++ [32, 104, 97, 115, 32, 110, 111, 32, 112, 114, 111, 100, 117, 99, 116] else [])
  else if w.kind = 3 then (if inN w.a T.cals.length = true then [99, 97, 108, 101, 110, 100, 97, 114, 32] ++ idC T w.a ++ [32, 105, 115, 32, 110, 111, 116, 32, 117, 115, 101, 100] else [])
  else if w.kind = 4 then (if inN w.a T.trips.length = true then [116, 114, 105, 112, 32] ++ idT T w.a ++ [32, 110, 101, 118, 101, 114, 32, 114, 117, 110, 115] else [])
  else []
theorem text_ok (T : Timetable) (hT : T.Ok) (hi : IdsOk T) (w : Warn) : lint_Text_M [T.pv, w.pv] = some (.str (textT T w)) := by
  simp only [lint_Text_M, lint_Text, ttA, tt0, tt1, tt2, tt3, tt4, tt5, tt6, tt7, tt8, tt9, tt10, tt11, tt12, warnA, warn0, warn1, warn2, asSl, asInt, if_true, bind_some', List.length_map, in_text, asBool, beq_d, bne_d, decide_eq_true_eq]
  unfold textT
  by_cases h5 : w.kind = 5
  · simp only [h5, if_true]
    cases ha : inN w.a T.trips.length with
    | false => simp only [Bool.not_false, cond_true, bind_some', if_true, Bool.true_or]
    | true =>
      cases hb : inN w.b T.trips.length with
      | false => simp only [Bool.not_true, Bool.not_false, cond_false, bind_some', if_true, Bool.or_true]
      | true =>
        obtain ⟨i, e1, hi1⟩ := in_nat ha
        obtain ⟨k, e2, hk1⟩ := in_nat hb
        have l1 := hi.trips _ (List.getElem_mem hi1)
        have l2 := hi.trips _ (List.getElem_mem hk1)
        have g1 : idT T w.a = T.trips[i].id := by unfold idT; rw [e1, Int.toNat_natCast, List.getElem?_eq_getElem hi1]
        have g2 : idT T w.b = T.trips[k].id := by unfold idT; rw [e2, Int.toNat_natCast, List.getElem?_eq_getElem hk1]
        rw [g1, g2, e1, e2]
        simp only [Bool.not_true, cond_false, bind_some', Bool.or_false, Bool.false_eq_true, if_false, idxP_nat, List.getElem?_map, List.getElem?_eq_getElem hi1, List.getElem?_eq_getElem hk1, Option.map_some, trip0, asStr]
        rw [room_text _ (by omega), room_text _ (by simp only [List.length_append, List.length_cons, List.length_nil]; omega), room_text _ (by simp only [List.length_append, List.length_cons, List.length_nil]; omega)]
  simp only [h5, if_false]
  by_cases hb : w.b = 0
  · simp only [hb, decide_true, Bool.not_true, Bool.false_eq_true, if_false, ne_eq, not_true_eq_false]
    by_cases h1 : w.kind = 1
    · simp only [h1, if_true, show ¬ ((1 : Int) = 6) from by decide, show ¬ ((1 : Int) = 2) from by decide, show ¬ ((1 : Int) = 7) from by decide, show ¬ ((1 : Int) = 3) from by decide, show ¬ ((1 : Int) = 4) from by decide, if_false]
      cases ha : inN w.a T.stops.length with
      | false => simp only [Bool.not_false, if_true, if_false, Bool.false_eq_true]
      | true =>
        obtain ⟨i, e1, hi1⟩ := in_nat ha
        have l1 := hi.stops _ (List.getElem_mem hi1)
        have g1 : idS T w.a = T.stops[i].id := by unfold idS; rw [e1, Int.toNat_natCast, List.getElem?_eq_getElem hi1]
        rw [g1, e1]
        simp only [Bool.not_true, bind_some', Bool.false_eq_true, if_false, if_true, idxP_nat, List.getElem?_map, List.getElem?_eq_getElem hi1, Option.map_some, stop0, asStr]
        rw [room_text _ (by omega), room_text _ (by simp only [List.length_append, List.length_cons, List.length_nil]; omega)]
    simp only [h1, if_false]
    by_cases h6 : w.kind = 6
    · simp only [h6, if_true, show ¬ ((6 : Int) = 1) from by decide, show ¬ ((6 : Int) = 2) from by decide, show ¬ ((6 : Int) = 7) from by decide, show ¬ ((6 : Int) = 3) from by decide, show ¬ ((6 : Int) = 4) from by decide, if_false]
      cases ha : inN w.a T.stops.length with
      | false => simp only [Bool.not_false, if_true, if_false, Bool.false_eq_true]
      | true =>
        obtain ⟨i, e1, hi1⟩ := in_nat ha
        have l1 := hi.stops _ (List.getElem_mem hi1)
        have g1 : idS T w.a = T.stops[i].id := by unfold idS; rw [e1, Int.toNat_natCast, List.getElem?_eq_getElem hi1]
        rw [g1, e1]
        simp only [Bool.not_true, bind_some', Bool.false_eq_true, if_false, if_true, idxP_nat, List.getElem?_map, List.getElem?_eq_getElem hi1, Option.map_some, stop0, asStr]
        rw [room_text _ (by omega), room_text _ (by simp only [List.length_append, List.length_cons, List.length_nil]; omega)]
    simp only [h6, if_false]
    by_cases h2 : w.kind = 2
    · simp only [h2, if_true, show ¬ ((2 : Int) = 1) from by decide, show ¬ ((2 : Int) = 6) from by decide, show ¬ ((2 : Int) = 7) from by decide, show ¬ ((2 : Int) = 3) from by decide, show ¬ ((2 : Int) = 4) from by decide, if_false]
      cases ha : inN w.a T.routes.length with
      | false => simp only [Bool.not_false, if_true, if_false, Bool.false_eq_true]
      | true =>
        obtain ⟨i, e1, hi1⟩ := in_nat ha
        have l1 := hi.routes _ (List.getElem_mem hi1)
        have g1 : idR T w.a = T.routes[i].id := by unfold idR; rw [e1, Int.toNat_natCast, List.getElem?_eq_getElem hi1]
        rw [g1, e1]
        simp only [Bool.not_true, bind_some', Bool.false_eq_true, if_false, if_true, idxP_nat, List.getElem?_map, List.getElem?_eq_getElem hi1, Option.map_some, route0, asStr]
        rw [room_text _ (by omega), room_text _ (by simp only [List.length_append, List.length_cons, List.length_nil]; omega)]
    simp only [h2, if_false]
    by_cases h7 : w.kind = 7
    · simp only [h7, if_true, show ¬ ((7 : Int) = 1) from by decide, show ¬ ((7 : Int) = 6) from by decide, show ¬ ((7 : Int) = 2) from by decide, show ¬ ((7 : Int) = 3) from by decide, show ¬ ((7 : Int) = 4) from by decide, if_false]
      cases ha : inN w.a T.routes.length with
      | false => simp only [Bool.not_false, if_true, if_false, Bool.false_eq_true]
      | true =>
        obtain ⟨i, e1, hi1⟩ := in_nat ha
        have l1 := hi.routes _ (List.getElem_mem hi1)
        have g1 : idR T w.a = T.routes[i].id := by unfold idR; rw [e1, Int.toNat_natCast, List.getElem?_eq_getElem hi1]
        rw [g1, e1]
        simp only [Bool.not_true, bind_some', Bool.false_eq_true, if_false, if_true, idxP_nat, List.getElem?_map, List.getElem?_eq_getElem hi1, Option.map_some, route0, asStr]
        rw [room_text _ (by omega), room_text _ (by simp only [List.length_append, List.length_cons, List.length_nil]; omega)]
    simp only [h7, if_false]
    by_cases h3 : w.kind = 3
    · simp only [h3, if_true, show ¬ ((3 : Int) = 1) from by decide, show ¬ ((3 : Int) = 6) from by decide, show ¬ ((3 : Int) = 2) from by decide, show ¬ ((3 : Int) = 7) from by decide, show ¬ ((3 : Int) = 4) from by decide, if_false]
      cases ha : inN w.a T.cals.length with
      | false => simp only [Bool.not_false, if_true, if_false, Bool.false_eq_true]
      | true =>
        obtain ⟨i, e1, hi1⟩ := in_nat ha
        have l1 := hi.cals _ (List.getElem_mem hi1)
        have g1 : idC T w.a = T.cals[i].id := by unfold idC; rw [e1, Int.toNat_natCast, List.getElem?_eq_getElem hi1]
        rw [g1, e1]
        simp only [Bool.not_true, bind_some', Bool.false_eq_true, if_false, if_true, idxP_nat, List.getElem?_map, List.getElem?_eq_getElem hi1, Option.map_some, cal0, asStr]
        rw [room_text _ (by omega), room_text _ (by simp only [List.length_append, List.length_cons, List.length_nil]; omega)]
    simp only [h3, if_false]
    by_cases h4 : w.kind = 4
    · simp only [h4, if_true, show ¬ ((4 : Int) = 1) from by decide, show ¬ ((4 : Int) = 6) from by decide, show ¬ ((4 : Int) = 2) from by decide, show ¬ ((4 : Int) = 7) from by decide, show ¬ ((4 : Int) = 3) from by decide, if_false]
      cases ha : inN w.a T.trips.length with
      | false => simp only [Bool.not_false, if_true, if_false, Bool.false_eq_true]
      | true =>
        obtain ⟨i, e1, hi1⟩ := in_nat ha
        have l1 := hi.trips _ (List.getElem_mem hi1)
        have g1 : idT T w.a = T.trips[i].id := by unfold idT; rw [e1, Int.toNat_natCast, List.getElem?_eq_getElem hi1]
        rw [g1, e1]
        simp only [Bool.not_true, bind_some', Bool.false_eq_true, if_false, if_true, idxP_nat, List.getElem?_map, List.getElem?_eq_getElem hi1, Option.map_some, trip0, asStr]
        rw [room_text _ (by omega), room_text _ (by simp only [List.length_append, List.length_cons, List.length_nil]; omega)]
    simp only [h4, if_false]
  · simp only [decide_false, Bool.not_false, if_true, ne_eq, hb, not_false_eq_true]
theorem text_ne (T : Timetable) (w : Warn) (h : holdsB T w = true) : textT T w ≠ [] := by
  have hd : ¬ ((decide (w.a < 0) || (!decide (w.kind = 5) && !decide (w.b = 0))) = true) := fun hh => by
    unfold holdsB at h; rw [if_pos hh] at h; cases h
  unfold holdsB at h
  rw [if_neg hd] at h
  have h0 : w.a ≥ 0 := by
    by_cases hc : w.a < 0
    · exact absurd (by simp [hc]) hd
    · omega
  unfold textT
  by_cases h5 : w.kind = 5
  · simp only [h5, show ¬ ((5 : Int) = 1) from by decide, show ¬ ((5 : Int) = 2) from by decide, show ¬ ((5 : Int) = 3) from by decide, show ¬ ((5 : Int) = 4) from by decide, if_false, if_true, Bool.and_eq_true, decide_eq_true_eq] at h
    have e1 : inN w.a T.trips.length = true := by unfold inN; simp [h0, h.1.1.1]
    have e2 : inN w.b T.trips.length = true := by unfold inN; rw [Bool.and_eq_true, decide_eq_true_eq, decide_eq_true_eq]; exact ⟨h.1.1.2, h.1.2⟩
    simp [h5, e1, e2]
  have hb : w.b = 0 := by
    by_cases hc : w.b = 0
    · exact hc
    · exact absurd (by simp [h5, hc]) hd
  simp only [h5, if_false, hb, ne_eq, not_true_eq_false]
  simp only [h5, if_false] at h
  by_cases h1 : w.kind = 1
  · simp only [h1, if_true, show ¬ ((1 : Int) = 2) from by decide, show ¬ ((1 : Int) = 3) from by decide, show ¬ ((1 : Int) = 4) from by decide, show ¬ ((1 : Int) = 5) from by decide, show ¬ ((1 : Int) = 6) from by decide, show ¬ ((1 : Int) = 7) from by decide, if_false, Bool.and_eq_true, decide_eq_true_eq] at h ⊢
    have e1 : inN w.a T.stops.length = true := by
      unfold inN; rw [Bool.and_eq_true, decide_eq_true_eq, decide_eq_true_eq]
      exact ⟨h0, by first | exact h.1 | exact h.1.1⟩
    simp [e1]
  by_cases h6 : w.kind = 6
  · simp only [h6, if_true, show ¬ ((6 : Int) = 1) from by decide, show ¬ ((6 : Int) = 2) from by decide, show ¬ ((6 : Int) = 3) from by decide, show ¬ ((6 : Int) = 4) from by decide, show ¬ ((6 : Int) = 5) from by decide, show ¬ ((6 : Int) = 7) from by decide, if_false, Bool.and_eq_true, decide_eq_true_eq] at h ⊢
    have e1 : inN w.a T.stops.length = true := by
      unfold inN; rw [Bool.and_eq_true, decide_eq_true_eq, decide_eq_true_eq]
      exact ⟨h0, by first | exact h.1 | exact h.1.1⟩
    simp [e1]
  by_cases h2 : w.kind = 2
  · simp only [h2, if_true, show ¬ ((2 : Int) = 1) from by decide, show ¬ ((2 : Int) = 3) from by decide, show ¬ ((2 : Int) = 4) from by decide, show ¬ ((2 : Int) = 5) from by decide, show ¬ ((2 : Int) = 6) from by decide, show ¬ ((2 : Int) = 7) from by decide, if_false, Bool.and_eq_true, decide_eq_true_eq] at h ⊢
    have e1 : inN w.a T.routes.length = true := by
      unfold inN; rw [Bool.and_eq_true, decide_eq_true_eq, decide_eq_true_eq]
      exact ⟨h0, by first | exact h.1 | exact h.1.1⟩
    simp [e1]
  by_cases h7 : w.kind = 7
  · simp only [h7, if_true, show ¬ ((7 : Int) = 1) from by decide, show ¬ ((7 : Int) = 2) from by decide, show ¬ ((7 : Int) = 3) from by decide, show ¬ ((7 : Int) = 4) from by decide, show ¬ ((7 : Int) = 5) from by decide, show ¬ ((7 : Int) = 6) from by decide, if_false, Bool.and_eq_true, decide_eq_true_eq] at h ⊢
    have e1 : inN w.a T.routes.length = true := by
      unfold inN; rw [Bool.and_eq_true, decide_eq_true_eq, decide_eq_true_eq]
      exact ⟨h0, by first | exact h.1 | exact h.1.1⟩
    simp [e1]
  by_cases h3 : w.kind = 3
  · simp only [h3, if_true, show ¬ ((3 : Int) = 1) from by decide, show ¬ ((3 : Int) = 2) from by decide, show ¬ ((3 : Int) = 4) from by decide, show ¬ ((3 : Int) = 5) from by decide, show ¬ ((3 : Int) = 6) from by decide, show ¬ ((3 : Int) = 7) from by decide, if_false, Bool.and_eq_true, decide_eq_true_eq] at h ⊢
    have e1 : inN w.a T.cals.length = true := by
      unfold inN; rw [Bool.and_eq_true, decide_eq_true_eq, decide_eq_true_eq]
      exact ⟨h0, by first | exact h.1 | exact h.1.1⟩
    simp [e1]
  by_cases h4 : w.kind = 4
  · simp only [h4, if_true, show ¬ ((4 : Int) = 1) from by decide, show ¬ ((4 : Int) = 2) from by decide, show ¬ ((4 : Int) = 3) from by decide, show ¬ ((4 : Int) = 5) from by decide, show ¬ ((4 : Int) = 6) from by decide, show ¬ ((4 : Int) = 7) from by decide, if_false, Bool.and_eq_true, decide_eq_true_eq] at h ⊢
    have e1 : inN w.a T.trips.length = true := by
      unfold inN; rw [Bool.and_eq_true, decide_eq_true_eq, decide_eq_true_eq]
      exact ⟨h0, by first | exact h.1 | exact h.1.1⟩
    simp [e1]
  simp only [h1, h2, h3, h4, h6, h7, if_false, Bool.false_eq_true] at h
end Go.Ab.Tt
namespace Go.Ab.Tt
set_option maxRecDepth 1000000
set_option linter.unusedVariables false

theorem ids_valid (T : Timetable) (hv : ttOk T = true) : IdsOk T := by
  have short : ∀ s : Bytes, ¬ validB s = false → s.length ≤ 1048576 := fun s h => by
    rw [Bool.not_eq_false] at h
    unfold validB at h
    simp only [Bool.and_eq_true, decide_eq_true_eq] at h
    omega
  have h0 := (valid_iff T).1 hv 0 (by decide)
  have h1 := (valid_iff T).1 hv 1 (by decide)
  have h2 := (valid_iff T).1 hv 2 (by decide)
  have h4 := (valid_iff T).1 hv 4 (by decide)
  simp only [partRes] at h0 h1 h2 h4
  refine ⟨fun x hx => ?_, fun x hx => ?_, fun x hx => ?_, fun x hx => ?_⟩
  · unfold stopRes at h0
    by_cases h64 : T.stops.length > 64
    · rw [if_pos h64] at h0; cases h0
    rw [if_neg h64] at h0
    obtain ⟨k, hk⟩ := List.mem_iff_getElem?.1 hx
    have := scanE_all _ _ h0 k (List.getElem?_eq_some_iff.1 hk).1
    unfold stopErr at this
    rw [hk] at this
    simp only at this
    refine short _ fun c => ?_
    rw [if_pos c] at this; cases this
  · unfold routeRes at h1
    by_cases h64 : T.routes.length > 64
    · rw [if_pos h64] at h1; cases h1
    rw [if_neg h64] at h1
    obtain ⟨k, hk⟩ := List.mem_iff_getElem?.1 hx
    have := scanE_all _ _ h1 k (List.getElem?_eq_some_iff.1 hk).1
    unfold routeErr at this
    rw [hk] at this
    simp only at this
    refine short _ fun c => ?_
    rw [if_pos c] at this; cases this
  · unfold calRes at h2
    by_cases h64 : T.cals.length > 64
    · rw [if_pos h64] at h2; cases h2
    rw [if_neg h64] at h2
    obtain ⟨k, hk⟩ := List.mem_iff_getElem?.1 hx
    have := scanE_all _ _ h2 k (List.getElem?_eq_some_iff.1 hk).1
    unfold calErr at this
    rw [hk] at this
    simp only at this
    refine short _ fun c => ?_
    rw [if_pos c] at this; cases this
  · unfold tripRes at h4
    by_cases h64 : T.trips.length > 256
    · rw [if_pos h64] at h4; cases h4
    rw [if_neg h64] at h4
    obtain ⟨k, hk⟩ := List.mem_iff_getElem?.1 hx
    have := scanE_all _ _ h4 k (List.getElem?_eq_some_iff.1 hk).1
    unfold tripErr at this
    rw [hk] at this
    simp only at this
    refine short _ fun c => ?_
    rw [if_pos c] at this; cases this

/-! ### each applies; they ascend -/
theorem prog_holds (T : Timetable) (w : Warn) (h : w ∈ progW T) : holdsB T w = true := by
  rw [← same_lists] at h
  unfold refW kindW rowW at h
  simp only [List.mem_flatMap, List.mem_map, List.mem_filter] at h
  obtain ⟨_, _, _, _, b, ⟨_, hb⟩, rfl⟩ := h
  exact hb
def ltW (v w : Warn) : Prop := v.kind < w.kind ∨ v.kind = w.kind ∧ (v.a < w.a ∨ v.a = w.a ∧ v.b < w.b)
theorem row_asc (T : Timetable) (kind : Int) (a nb : Nat) : (rowW T kind a nb).Pairwise ltW := by
  unfold rowW
  rw [List.pairwise_map]
  refine (List.Pairwise.filter _ List.pairwise_lt_range).imp ?_
  intro x y h
  refine .inr ⟨rfl, .inr ⟨rfl, ?_⟩⟩
  show (x : Int) < (y : Int)
  omega
theorem kind_asc (T : Timetable) (kind : Int) (most : Nat) : (kindW T kind most).Pairwise ltW := by
  unfold kindW
  rw [List.pairwise_flatMap]
  refine ⟨fun a _ => row_asc T kind a _, List.pairwise_lt_range.imp ?_⟩
  intro x y h v hv w hw
  unfold rowW at hv hw
  rw [List.mem_map] at hv hw
  obtain ⟨_, _, rfl⟩ := hv
  obtain ⟨_, _, rfl⟩ := hw
  refine .inr ⟨rfl, .inl ?_⟩
  show (x : Int) < (y : Int)
  omega
theorem ref_asc (T : Timetable) (most n : Nat) : (refW T most n).Pairwise ltW := by
  unfold refW
  rw [List.pairwise_flatMap]
  refine ⟨fun a _ => kind_asc T _ _, List.pairwise_lt_range.imp ?_⟩
  intro x y h v hv w hw
  unfold kindW rowW at hv hw
  simp only [List.mem_flatMap, List.mem_map] at hv hw
  obtain ⟨_, _, _, _, rfl⟩ := hv
  obtain ⟨_, _, _, _, rfl⟩ := hw
  refine .inl ?_
  show (x : Int) + 1 < (y : Int) + 1
  omega
theorem prog_asc (T : Timetable) (k : Nat) (h : k + 1 < (progW T).length) : ltW (progW T)[k] (progW T)[k + 1] := by
  have := ref_asc T (mostT T) 7
  rw [same_lists] at this
  exact List.pairwise_iff_getElem.1 this k (k + 1) (by omega) h (by omega)

/-! ### how many of each kind -/
def cntW (kind : Int) (l : List Warn) : Nat := l.countP fun w => decide (w.kind = kind)
theorem cntW_app (kind : Int) (a b : List Warn) : cntW kind (a ++ b) = cntW kind a + cntW kind b := List.countP_append
theorem cnt_other (kind : Int) (l : List Warn) (k2 : Int) (h : ∀ w ∈ l, w.kind = k2) (hne : k2 ≠ kind) : cntW kind l = 0 := by
  unfold cntW
  rw [List.countP_eq_zero]
  intro w hw
  rw [h w hw]
  simpa using hne
theorem cntW_le (kind : Int) (l : List Warn) : cntW kind l ≤ l.length := List.countP_le_length
theorem cnt_snoc (kind : Int) (l : List Warn) (k : Nat) (h : k < l.length) : cntW kind (l.take (k + 1)) = cntW kind (l.take k) + if l[k].kind = kind then 1 else 0 := by
  rw [take_succ' _ _ h, cntW_app]
  unfold cntW
  rw [List.countP_cons, List.countP_nil]
  by_cases hc : l[k].kind = kind <;> simp [hc]
theorem cntW_prog (T : Timetable) : cntW 1 (progW T) ≤ T.stops.length ∧ cntW 2 (progW T) ≤ T.routes.length ∧ cntW 3 (progW T) ≤ T.cals.length := by
  have o : ∀ kind k2 : Int, ∀ f n, k2 ≠ kind → cntW kind (missW k2 f n) = 0 := fun kind k2 f n h => cnt_other kind _ k2 (missW_kind k2 f n) h
  have ov : ∀ kind : Int, ∀ n, (5 : Int) ≠ kind → cntW kind (overL T n) = 0 := fun kind n h => cnt_other kind _ 5 (overL_kind T n) h
  have l1 := cntW_le 1 (missW 1 (usedS T) T.stops.length)
  have l2 := cntW_le 2 (missW 2 (usedR T) T.routes.length)
  have l3 := cntW_le 3 (missW 3 (usedC T) T.cals.length)
  have m1 := missW_len 1 (usedS T) T.stops.length
  have m2 := missW_len 2 (usedR T) T.routes.length
  have m3 := missW_len 3 (usedC T) T.cals.length
  unfold progW
  simp only [cntW_app, o 1 2 _ _ (by decide), o 1 3 _ _ (by decide), o 1 4 _ _ (by decide), o 1 6 _ _ (by decide), o 1 7 _ _ (by decide), o 2 1 _ _ (by decide), o 2 3 _ _ (by decide), o 2 4 _ _ (by decide), o 2 6 _ _ (by decide), o 2 7 _ _ (by decide), o 3 1 _ _ (by decide), o 3 2 _ _ (by decide), o 3 4 _ _ (by decide), o 3 6 _ _ (by decide), o 3 7 _ _ (by decide), ov 1 _ (by decide), ov 2 _ (by decide), ov 3 _ (by decide)]
  omega

theorem sound_law (T : Timetable) (hT : T.Ok) : law24_LintSound_M [T.pv] = some (.bool true) := by
  obtain ⟨b, hb, hB⟩ := large_ok T hT
  simp only [law24_LintSound_M, law24_LintSound, ttA, tt0, tt1, tt2, tt3, tt4, tt5, tt6, tt7, tt8, tt9, tt10, tt11, tt12, asSl, asInt, asBool, if_true, bind_some', ttE, hb]
  cases b with
  | true => simp only [cond_true, bind_some', if_true, exampleHolds24]
  | false =>
    have hB' := hB rfl
    have hv := valid_ok T hT hB'.small
    simp only [cond_false, hv, bind_some']
    cases hok : ttOk T with
    | false => simp only [Bool.not_false, if_true, exampleHolds24, bind_some']
    | true =>
      have hw := warnings_prog T hT hB'
      have hlen := progW_len T hB'
      have hc := cntW_prog T
      have hids := ids_valid T hok
      have hmodes := modes_ok T hok
      simp only [hok, if_true] at hw
      simp only [Bool.not_true, Bool.false_eq_true, if_false, hw, bind_some']
      refine loop_until (fun k => ((progW T).map Warn.pv, (cntW 1 ((progW T).take k) : Int), (cntW 2 ((progW T).take k) : Int), (cntW 3 ((progW T).take k) : Int), (k : Int), tl T ())) (progW T).length (fun k hk rec => ?_) (fun rec => ?_) ?_ rfl
      · have h1 : (k : Int) < ((progW T).length : Int) := by omega
        have hh := holds_ok T hT hB'.small hmodes (progW T)[k]
        rw [prog_holds T _ (List.getElem_mem hk)] at hh
        have htx := text_ok T hT hids (progW T)[k]
        have hne : decide (textT T (progW T)[k] = []) = false := decide_eq_false (text_ne T _ (prog_holds T _ (List.getElem_mem hk)))
        have c1 := cnt_snoc 1 (progW T) k hk
        have c2 := cnt_snoc 2 (progW T) k hk
        have c3 := cnt_snoc 3 (progW T) k hk
        have l1 := cntW_le 1 ((progW T).take k)
        have l2 := cntW_le 2 ((progW T).take k)
        have l3 := cntW_le 3 ((progW T).take k)
        rw [List.length_take] at l1 l2 l3
        simp only [law24_LintSound_L1, tl, decide_eq_true_eq, List.length_map, h1, if_true, idxP_nat, List.getElem?_map, List.getElem?_eq_getElem hk, Option.map_some, bind_some', warn0, warn1, warn2, asInt, asBool, asStr, warnE, ttE, hh, htx, hne, Bool.not_true, Bool.false_or, cond_false, Bool.false_eq_true, if_false, bif_and, bif_or', wrap_nat (show k < 9223372036854775807 by omega), wrap_nat (show cntW 1 ((progW T).take k) < 9223372036854775807 by omega), wrap_nat (show cntW 2 ((progW T).take k) < 9223372036854775807 by omega), wrap_nat (show cntW 3 ((progW T).take k) < 9223372036854775807 by omega), beq_d]
        have tail : ∀ (st : Int → Int → Int → Option PV), (if (progW T)[k].kind = 1 then st ((cntW 1 ((progW T).take k) + 1 : Nat) : Int) (cntW 2 ((progW T).take k)) (cntW 3 ((progW T).take k)) else if (progW T)[k].kind = 2 then st (cntW 1 ((progW T).take k)) ((cntW 2 ((progW T).take k) + 1 : Nat) : Int) (cntW 3 ((progW T).take k)) else if (progW T)[k].kind = 3 then st (cntW 1 ((progW T).take k)) (cntW 2 ((progW T).take k)) ((cntW 3 ((progW T).take k) + 1 : Nat) : Int) else st (cntW 1 ((progW T).take k)) (cntW 2 ((progW T).take k)) (cntW 3 ((progW T).take k))) = st (cntW 1 ((progW T).take (k + 1)) : Int) (cntW 2 ((progW T).take (k + 1)) : Int) (cntW 3 ((progW T).take (k + 1)) : Int) := fun st => by
          rw [c1, c2, c3]
          by_cases k1 : (progW T)[k].kind = 1
          · simp [k1]
          · by_cases k2 : (progW T)[k].kind = 2
            · simp [k2]
            · by_cases k3 : (progW T)[k].kind = 3
              · simp [k3]
              · simp [k1, k2, k3]
        by_cases hk0 : (k : Int) > 0
        · obtain ⟨j, rfl⟩ : ∃ j, k = j + 1 := ⟨k - 1, by omega⟩
          have hw1 : IntKind.i64.wrap (((j + 1 : Nat) : Int) - 1) = (j : Int) := by rw [wrap_in (by omega) (by omega)]; omega
          have hj : j < (progW T).length := by omega
          have hasc := prog_asc T j hk
          unfold ltW at hasc
          have hbad : (decide ((progW T)[j].kind > (progW T)[j + 1].kind) || (decide ((progW T)[j].kind = (progW T)[j + 1].kind) && (decide ((progW T)[j].a > (progW T)[j + 1].a) || (decide ((progW T)[j].a = (progW T)[j + 1].a) && decide ((progW T)[j].b ≥ (progW T)[j + 1].b))))) = false := by
            simp only [Bool.or_eq_false_iff, Bool.and_eq_false_iff, decide_eq_false_iff_not]
            omega
          simp only [hk0, if_true, hw1, idxP_nat, List.getElem?_map, List.getElem?_eq_getElem hj, Option.map_some, bind_some', warn0, warn1, warn2, asInt, bif_and, bif_or', beq_d, hbad, Bool.false_eq_true, if_false, decide_eq_true_eq]
          exact tail fun a b c => rec ((progW T).map Warn.pv, a, b, c, ((j + 1 + 1 : Nat) : Int), tl T ())
        · simp only [hk0, if_false, decide_eq_true_eq]
          exact tail fun a b c => rec ((progW T).map Warn.pv, a, b, c, ((k + 1 : Nat) : Int), tl T ())
      · have d1 : decide ((cntW 1 (progW T) : Int) ≤ (T.stops.length : Int)) = true := by rw [decide_eq_true_eq]; omega
        have d2 : decide ((cntW 2 (progW T) : Int) ≤ (T.routes.length : Int)) = true := by rw [decide_eq_true_eq]; omega
        have d3 : decide ((cntW 3 (progW T) : Int) ≤ (T.cals.length : Int)) = true := by rw [decide_eq_true_eq]; omega
        simp only [law24_LintSound_L1, tl, decide_eq_true_eq, List.length_map, Int.lt_irrefl, if_false, List.take_length, d1, d2, d3, cond_true, bind_some', exampleHolds24, asBool]
      · have := rounds_gt; have : 100000 ≤ maxLen := by decide
        omega
end Go.Ab.Tt
