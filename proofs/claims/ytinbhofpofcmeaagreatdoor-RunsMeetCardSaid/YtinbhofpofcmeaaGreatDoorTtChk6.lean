/- Frequencies: moved times, starts, both checks. -/
import Derived.Test.YtinbhofpofcmeaaGreatDoorTtChk4
set_option maxRecDepth 100000
set_option linter.unusedVariables false
namespace Go.Ab.Tt

/-! ### moved times -/
def mvOk (t first start : Int) : Bool := decide (0 ≤ t - first + start) && decide (t - first + start ≤ 172800)
theorem and_mask64 (n : Int) : ((BitVec.ofInt 64 n &&& BitVec.ofInt 64 4294967295).toNat : Int) = n % 4294967296 := by
  have h : (BitVec.ofInt 64 4294967295).toNat = 2 ^ 32 - 1 := by decide
  rw [BitVec.toNat_and, h, Nat.and_two_pow_sub_one_eq_mod, BitVec.toNat_ofInt]
  omega
theorem and_mask (n : Int) : ((BitVec.ofInt IntKind.i64.bits n &&& BitVec.ofInt IntKind.i64.bits 4294967295).toNat : Int) = n % 4294967296 := and_mask64 n
theorem moved1_ok (n : Int) : frequency_moved_1_M [.int .i64 n] = some (.bool (decide (n < -2305843009213693952) || decide (n > 2305843009213693952))) := by
  simp only [frequency_moved_1_M, frequency_moved_1, asInt, if_true, bind_some', bif_or']
theorem i64_iff (a : Int) : I64 a ↔ -9223372036854775808 ≤ a ∧ a ≤ 9223372036854775807 := by
  have h1 : IntKind.i64.min = -9223372036854775808 := by decide
  have h2 : IntKind.i64.max = 9223372036854775807 := by decide
  unfold I64 Lit.wf
  simp [h1, h2]
theorem two32 : ((2 : Int) ^ min (Int.toNat 32) IntKind.i64.bits) = 4294967296 := by decide
theorem fd32 (a : Int) : a.fdiv 4294967296 = a / 4294967296 := Int.fdiv_eq_ediv_of_nonneg _ (by decide)
theorem wide_ok (a b c : Int) (ha : I64 a) (hb : I64 b) (hc : I64 c) : ∃ n, frequency_wide_M [.int .i64 a, .int .i64 b, .int .i64 c] = some (.tup [.int .i64 n, .bool (mvOk a b c)]) ∧ (mvOk a b c = true → n = a - b + c) := by
  obtain ⟨ha1, ha2⟩ := (i64_iff _).1 ha
  obtain ⟨hb1, hb2⟩ := (i64_iff _).1 hb
  obtain ⟨hc1, hc2⟩ := (i64_iff _).1 hc
  simp only [frequency_wide_M, frequency_wide, asInt, if_true, bind_some', two32, fd32, and_mask]
  have w0 : ∀ x : Int, IntKind.i64.wrap (x % 4294967296) = x % 4294967296 := fun x => wrap_in (by omega) (by omega)
  have w1 : IntKind.i64.wrap (a / 4294967296 - b / 4294967296) = a / 4294967296 - b / 4294967296 := wrap_in (by omega) (by omega)
  have w2 : IntKind.i64.wrap (a / 4294967296 - b / 4294967296 + c / 4294967296) = a / 4294967296 - b / 4294967296 + c / 4294967296 := wrap_in (by omega) (by omega)
  have w3 : IntKind.i64.wrap (a % 4294967296 - b % 4294967296) = a % 4294967296 - b % 4294967296 := wrap_in (by omega) (by omega)
  have w4 : IntKind.i64.wrap (a % 4294967296 - b % 4294967296 + c % 4294967296) = a % 4294967296 - b % 4294967296 + c % 4294967296 := wrap_in (by omega) (by omega)
  have w5 : IntKind.i64.wrap (a / 4294967296 - b / 4294967296 + c / 4294967296 + (a % 4294967296 - b % 4294967296 + c % 4294967296) / 4294967296) = a / 4294967296 - b / 4294967296 + c / 4294967296 + (a % 4294967296 - b % 4294967296 + c % 4294967296) / 4294967296 := wrap_in (by omega) (by omega)
  simp only [w0, w1, w2, w3, w4, w5]
  generalize hH : a / 4294967296 - b / 4294967296 + c / 4294967296 + (a % 4294967296 - b % 4294967296 + c % 4294967296) / 4294967296 = H
  generalize hL : (a % 4294967296 - b % 4294967296 + c % 4294967296) % 4294967296 = Lo
  have hs : a - b + c = H * 4294967296 + Lo := by omega
  have hLo : 0 ≤ Lo ∧ Lo < 4294967296 := by omega
  unfold mvOk
  by_cases h0 : H = 0
  · have e0 : (BitVec.ofInt 64 (IntKind.i64.wrap (H * 4294967296)) ||| BitVec.ofInt 64 Lo).toNat = Lo.toNat := by
      rw [h0]
      have : IntKind.i64.wrap (0 * 4294967296) = 0 := by decide
      rw [this]
      have z : BitVec.ofInt 64 0 = 0#64 := by decide
      rw [z, BitVec.zero_or, BitVec.toNat_ofInt]
      omega
    have e1 : IntKind.i64.wrap ((BitVec.ofInt IntKind.i64.bits (IntKind.i64.wrap (H * 4294967296)) ||| BitVec.ofInt IntKind.i64.bits Lo).toNat : Int) = Lo := by
      have e2 : (BitVec.ofInt IntKind.i64.bits (IntKind.i64.wrap (H * 4294967296)) ||| BitVec.ofInt IntKind.i64.bits Lo).toNat = Lo.toNat := e0
      rw [e2]; rw [wrap_in (by omega) (by omega)]; omega
    simp only [e1]
    refine ⟨Lo, ?_, fun _ => by omega⟩
    have hb : (H == 0) = true := by simp [h0]
    simp only [hb, cond_true, bind_some']
    have h1 : decide (0 ≤ a - b + c) = true := by rw [decide_eq_true_eq]; omega
    have h2 : decide (a - b + c ≤ 172800) = decide (Lo ≤ 172800) := by rw [Bool.eq_iff_iff]; simp only [decide_eq_true_eq]; omega
    rw [h1, h2, Bool.true_and]
  · have hb : (H == 0) = false := by simp [h0]
    simp only [hb, cond_false, bind_some']
    have h1 : (decide (0 ≤ a - b + c) && decide (a - b + c ≤ 172800)) = false := by
      rw [Bool.and_eq_false_iff]; simp only [decide_eq_false_iff_not]; omega
    rw [h1]
    exact ⟨_, rfl, fun h => by simp at h⟩
theorem moved_ok (a b c : Int) (ha : I64 a) (hb : I64 b) (hc : I64 c) : ∃ n, frequency_moved_M [.int .i64 a, .int .i64 b, .int .i64 c] = some (.tup [.int .i64 n, .bool (mvOk a b c)]) ∧ (mvOk a b c = true → n = a - b + c) := by
  obtain ⟨n, hn, hnn⟩ := wide_ok a b c ha hb hc
  simp only [frequency_moved_M, frequency_moved, asInt, if_true, bind_some', moved1_ok, asBool, bif_or', hn, asTup, List.length_cons, List.length_nil, Nat.reduceAdd, List.getD_cons_zero, List.getD_cons_succ, bif_and]
  split
  · exact ⟨n, rfl, hnn⟩
  · rename_i h
    simp only [Bool.or_eq_true, decide_eq_true_eq, not_or] at h
    have w1 : IntKind.i64.wrap (a - b) = a - b := wrap_in (by omega) (by omega)
    have w2 : IntKind.i64.wrap (a - b + c) = a - b + c := wrap_in (by omega) (by omega)
    simp only [w1, w2]
    exact ⟨_, rfl, fun _ => rfl⟩
theorem shift_ok (a b c : Int) (ha : I64 a) (hb : I64 b) (hc : 0 ≤ c ∧ c ≤ 172800) : ∃ n, ref18_Shift_M [.int .i64 a, .int .i64 c, .int .i64 b] = some (.tup [.int .i64 n, .bool (mvOk a b c)]) ∧ (mvOk a b c = true → n = a - b + c) := by
  obtain ⟨ha1, ha2⟩ := (i64_iff _).1 ha
  obtain ⟨hb1, hb2⟩ := (i64_iff _).1 hb
  have u : ∀ x y : Int, x ≥ y → -9223372036854775808 ≤ y → x ≤ 9223372036854775807 → IntKind.u64.wrap (IntKind.u64.wrap x - IntKind.u64.wrap y) = x - y := by
    intro x y h1 h2 h3
    simp only [IntKind.wrap, IntKind.signed, IntKind.bits, Bool.false_and, if_false, Bool.false_eq_true]
    omega
  simp only [ref18_Shift_M, ref18_Shift, asInt, if_true, bind_some', bif_or', bif_and]
  have h0 : (decide (c < 0) || decide (c > 172800)) = false := by
    rw [Bool.or_eq_false_iff]; simp only [decide_eq_false_iff_not]; omega
  simp only [h0, Bool.false_eq_true, if_false, decide_eq_true_eq]
  unfold mvOk
  have hno : ∀ d : Int, (d = a - b ∨ d = b - a) → d > 172800 → (decide (0 ≤ a - b + c) && decide (a - b + c ≤ 172800)) = false := by
    intro d hd h
    rw [Bool.and_eq_false_iff]; simp only [decide_eq_false_iff_not]; omega
  have hyes : a - b ≤ 172800 → b - a ≤ 172800 → IntKind.i64.wrap (c + IntKind.i64.wrap (a - b)) = a - b + c := by
    intro h1 h2
    rw [wrap_in (x := a - b) (by omega) (by omega), wrap_in (by omega) (by omega)]; omega
  by_cases hab : a ≥ b
  · rw [if_pos hab, u a b hab hb1 ha2]
    split
    · rename_i h; rw [hno _ (.inl rfl) h]; exact ⟨0, rfl, fun h => by simp at h⟩
    · rename_i h; rw [hyes (by omega) (by omega)]; exact ⟨_, rfl, fun _ => rfl⟩
  · rw [if_neg hab, u b a (by omega) ha1 hb2]
    split
    · rename_i h; rw [hno _ (.inr rfl) h]; exact ⟨0, rfl, fun h => by simp at h⟩
    · rename_i h; rw [hyes (by omega) (by omega)]; exact ⟨_, rfl, fun _ => rfl⟩

/-! ### loops that may use that no earlier round ended them -/
theorem loop_scan_inv {S R : Type} {body : S → (S → Option R) → Option R} (st : Nat → S) (n : Nat) (bad : Nat → Option (Option R)) {fin : Option R}
    (h : ∀ k, k < n → (∀ j, j < k → bad j = none) → ∀ rec, body (st k) rec = orFin (bad k) (rec (st (k + 1)))) (hend : (∀ j, j < n → bad j = none) → ∀ rec, body (st n) rec = fin) (hn : n < rounds) {s0 : S} (h0 : st 0 = s0) :
    lpS.run body s0 = orFin ((List.range n).findSome? bad) fin := by
  have key : ∀ (m j N : Nat), j + m = n → m < N → (∀ i, i < j → bad i = none) → loopS body N (st j) = orFin ((List.range' j m).findSome? bad) fin := by
    intro m
    induction m with
    | zero =>
      intro j N hj hN hq
      cases N with
      | zero => omega
      | succ N =>
        have : j = n := by omega
        subst this
        simp only [loopS, List.range'_zero, List.findSome?_nil]
        exact hend hq _
    | succ m ih =>
      intro j N hj hN hq
      cases N with
      | zero => omega
      | succ N =>
        simp only [loopS, List.range'_succ, List.findSome?_cons]
        rw [h j (by omega) hq]
        cases hb : bad j with
        | some r => rfl
        | none =>
          refine ih (j + 1) N (by omega) (by omega) fun i hi => ?_
          by_cases he : i = j
          · rw [he]; exact hb
          · exact hq i (by omega)
  rw [← h0, lpS_run, key n 0 rounds (by omega) hn (fun i hi => by omega), List.range_eq_range']
end Go.Ab.Tt
namespace Go.Ab.Tt

theorem kall3 (x : Kall) : cell x.pv 3 = .bool x.board := rfl
theorem kall4 (x : Kall) : cell x.pv 4 = .bool x.alight := rfl
theorem trip3 (x : Trip) : cell x.pv 3 = .bool x.free := rfl
theorem tripA (x : Trip) : asAgg 5 x.pv = some () := rfl
theorem cell_agg (cs : List PV) (k : Nat) : cell (.agg cs) k = cs.getD k .bad := rfl
def mvK (x : Kall) (first start : Int) : Kall := { x with arr := x.arr - first + start, dep := x.dep - first + start }
def kOk (x : Kall) (first start : Int) : Bool := mvOk x.arr first start && mvOk x.dep first start
def kOkAt (l : List Kall) (first start : Int) (k : Nat) : Bool := match l[k]? with | some x => kOk x first start | none => true
def callsE (l : List Kall) (start : Int) : Int := match l with
  | [] => 16
  | c :: _ => if (List.range l.length).all (kOkAt l c.dep start) = true then 0 else 10
theorem findSome_const {B : Type} (p : Nat → Bool) (r : B) : ∀ l : List Nat, l.findSome? (fun k => if p k = true then none else some r) = if l.all p = true then none else some r := by
  intro l
  induction l with
  | nil => rfl
  | cons a l ih =>
    simp only [List.findSome?_cons, List.all_cons]
    by_cases h : p a = true
    · simp [h, ih]
    · simp [h]
def mix (l : List Kall) (f : Kall → Kall) (k : Nat) : List PV := ((l.take k).map fun x => (f x).pv) ++ (l.drop k).map Kall.pv
theorem mix_len (l : List Kall) (f : Kall → Kall) (k : Nat) (h : k ≤ l.length) : (mix l f k).length = l.length := by simp [mix]; omega
theorem mix_get (l : List Kall) (f : Kall → Kall) (k : Nat) (h : k < l.length) : (mix l f k)[k]? = some l[k].pv := by
  unfold mix
  rw [List.getElem?_append_right (by simp; omega)]
  simp [List.getElem?_drop, Nat.min_eq_left (Nat.le_of_lt h), h]
theorem mix_set (l : List Kall) (f : Kall → Kall) (k : Nat) (h : k < l.length) : (mix l f k).set k (f l[k]).pv = mix l f (k + 1) := by
  unfold mix
  rw [List.set_append_right _ _ (by simp; omega)]
  have h1 : l.drop k = l[k] :: l.drop (k + 1) := (List.drop_eq_getElem_cons h)
  have h2 : l.take (k + 1) = l.take k ++ [l[k]] := (List.take_append_getElem h).symm
  rw [h1, h2]
  simp only [List.length_map, List.length_take, Nat.min_eq_left (Nat.le_of_lt h), Nat.sub_self, List.map_cons, List.set_cons_zero, List.map_append, List.map_nil, List.append_assoc, List.singleton_append]
theorem mix_zero (l : List Kall) (f : Kall → Kall) : mix l f 0 = l.map Kall.pv := by simp [mix]
theorem inRange_nat (k n : Nat) (h : k < n) : inRange (k : Int) n := by unfold inRange; omega
theorem fcalls_ok (x : Trip) (hx : x.Ok) (start : Int) (hs : I64 start) (h40 : x.calls.length ≤ 40) : ∃ es, frequency_Calls_M [x.pv, .int .i64 start] = some (.tup [.rs 5 es, .int .i64 (callsE x.calls start)]) := by
  have hm := maxLen_lt
  have hkall : ∀ y ∈ x.calls, y.Ok := hx.calls.2
  simp only [frequency_Calls_M, frequency_Calls, tripA, trip0, trip1, trip2, trip3, trip4, asStr, asSl, asInt, asBool, if_true, bind_some', List.length_map]
  generalize x.calls = l at h40 hkall ⊢
  cases l with
  | nil => exact ⟨[], rfl⟩
  | cons c l =>
    generalize hl : c :: l = cs at h40 hkall ⊢
    have hc0 : cs[0]? = some c := by rw [← hl]; rfl
    have hpos : 0 < cs.length := by rw [← hl]; simp
    have hcE : callsE cs start = if (List.range cs.length).all (kOkAt cs c.dep start) = true then 0 else 10 := by rw [← hl]; rfl
    have hcok : c.Ok := hkall c (by rw [← hl]; simp)
    have hne : ((cs.length : Int) == 0) = false := by rw [beq_eq_false_iff_ne]; omega
    have hix : idxP (cs.map Kall.pv) 0 = some c.pv := by
      have := idxP_nat (cs.map Kall.pv) 0
      simp only [Int.ofNat_eq_natCast, Int.natCast_zero] at this
      rw [show (0 : Int) = ((0 : Nat) : Int) from rfl, idxP_nat, List.getElem?_map, hc0]; rfl
    have hroom : 0 ≤ (cs.length : Int) ∧ (cs.length : Int) ≤ (cs.length : Int) ∧ (cs.length : Int).toNat * 32 ≤ roomBound ∧ 0 < 32 ∧ 0 < 5 := by
      refine ⟨by omega, by omega, ?_, by decide, by decide⟩
      unfold roomBound; omega
    rw [hne, hix]
    simp only [Bool.false_eq_true, if_false, bind_some', kall2, asInt, if_true, if_pos hroom, List.length_replicate, Int.toNat_natCast, List.take_of_length_le (Nat.le_of_eq (List.length_map _)), List.length_map]
    rw [List.drop_of_length_le (by simp), List.append_nil, List.length_map]
    have hroom2 : 0 ≤ (cs.length : Int) ∧ (cs.length : Int) ≤ (cs.length : Int) ∧ cs.length * 32 ≤ roomBound ∧ 0 < 32 ∧ 0 < 5 := hroom
    have hmain : lpS.run frequency_Calls_L1 (start, c.dep, (cs.length : Int), 0, cs.map Kall.pv, ()) = orFin ((List.range cs.length).findSome? fun k => if kOkAt cs c.dep start k = true then none else some (some (.tup [.rs 5 [], .int .i64 10]))) (some (.tup [.rs 5 (mix cs (fun x => mvK x c.dep start) cs.length), .int .i64 0])) := by
      refine loop_scan' (fun k => (start, c.dep, (cs.length : Int), (k : Int), mix cs (fun x => mvK x c.dep start) k, ())) cs.length _ (fun k hk rec => ?_) (fun rec => ?_) ?_ ?_
      · have h1 : (k : Int) < (cs.length : Int) := by omega
        have hkk : cs[k].Ok := hkall _ (List.getElem_mem hk)
        obtain ⟨n1, e1, q1⟩ := moved_ok cs[k].arr c.dep start hkk.arr hcok.dep hs
        obtain ⟨n2, e2, q2⟩ := moved_ok cs[k].dep c.dep start hkk.dep hcok.dep hs
        have hlen := mix_len cs (fun x => mvK x c.dep start) k (by omega)
        have hget := mix_get cs (fun x => mvK x c.dep start) k hk
        have hset := mix_set cs (fun x => mvK x c.dep start) k hk
        have hr : inRange (k : Int) cs.length := inRange_nat k _ hk
        have hkOk : kOkAt cs c.dep start k = (mvOk cs[k].arr c.dep start && mvOk cs[k].dep c.dep start) := by unfold kOkAt; rw [List.getElem?_eq_getElem hk]; rfl
        have hg2 : ∀ X, ((mix cs (fun x => mvK x c.dep start) k).set k X)[k]? = some X := fun X => by rw [List.getElem?_set_self (by rw [hlen]; exact hk)]
        simp only [frequency_Calls_L1, decide_eq_true_eq, h1, if_true, hlen, if_pos hr, Int.toNat_natCast, hget, bind_some', kall0, kall1, kall2, kall3, kall4, asInt, e1, e2, asTup, asBool, List.length_cons, List.length_nil, Nat.reduceAdd, List.getD_cons_zero, List.getD_cons_succ, List.length_set, hg2, cell_agg, over, List.set_set, wrap_nat (show k < 9223372036854775807 by omega)]
        rw [hkOk]
        cases hA : mvOk cs[k].arr c.dep start with
        | false => simp [orFin]
        | true =>
          cases hB : mvOk cs[k].dep c.dep start with
          | false => simp [orFin]
          | true =>
            rw [← hset, q1 hA, q2 hB]
            simp [orFin, mvK, Kall.pv]
      · simp only [frequency_Calls_L1, decide_eq_true_eq, Int.lt_irrefl, if_false]
      · have : 40 < rounds := by decide
        omega
      · simp only [mix_zero]; rfl
    rw [if_pos hroom2, hmain, findSome_const, hcE]
    by_cases hall : (List.range cs.length).all (kOkAt cs c.dep start) = true
    · rw [if_pos hall, if_pos hall]; exact ⟨_, rfl⟩
    · rw [if_neg hall, if_neg hall]; exact ⟨_, rfl⟩

theorem rcalls_ok (x : Trip) (hx : x.Ok) (start : Int) (hs : 0 ≤ start ∧ start ≤ 172800) (h40 : x.calls.length ≤ 40) : ∃ es, ref18_Calls_M [x.pv, .int .i64 start] = some (.tup [.rs 5 es, .int .i64 (callsE x.calls start)]) := by
  have hm := maxLen_lt
  have hkall : ∀ y ∈ x.calls, y.Ok := hx.calls.2
  simp only [ref18_Calls_M, ref18_Calls, tripA, trip0, trip1, trip2, trip3, trip4, asStr, asSl, asInt, asBool, if_true, bind_some', List.length_map]
  generalize x.calls = l at h40 hkall ⊢
  cases l with
  | nil => exact ⟨[], rfl⟩
  | cons c l =>
    generalize hl : c :: l = cs at h40 hkall ⊢
    have hc0 : cs[0]? = some c := by rw [← hl]; rfl
    have hpos : 0 < cs.length := by rw [← hl]; simp
    have hcE : callsE cs start = if (List.range cs.length).all (kOkAt cs c.dep start) = true then 0 else 10 := by rw [← hl]; rfl
    have hcok : c.Ok := hkall c (by rw [← hl]; simp)
    have hne : ((cs.length : Int) == 0) = false := by rw [beq_eq_false_iff_ne]; omega
    have hix : idxP (cs.map Kall.pv) 0 = some c.pv := by
      rw [show (0 : Int) = ((0 : Nat) : Int) from rfl, idxP_nat, List.getElem?_map, hc0]; rfl
    rw [hne, hix]
    simp only [Bool.false_eq_true, if_false, bind_some', kall2, asInt, if_true]
    have hmain : lpS.run (ref18_Calls_L1 lpS) (start, c.dep, 0, x.id, x.route, x.cal, x.free, cs.map Kall.pv, [], ()) = orFin ((List.range cs.length).findSome? fun k => if kOkAt cs c.dep start k = true then none else some (some (.tup [.rs 5 [], .int .i64 10]))) (some (.tup [.rs 5 (cs.map fun x => (mvK x c.dep start).pv), .int .i64 0])) := by
      refine loop_scan' (fun k => (start, c.dep, (k : Int), x.id, x.route, x.cal, x.free, cs.map Kall.pv, (cs.take k).map (fun x => (mvK x c.dep start).pv), ())) cs.length _ (fun k hk rec => ?_) (fun rec => ?_) ?_ rfl
      · have h1 : (k : Int) < (cs.length : Int) := by omega
        have hkk : cs[k].Ok := hkall _ (List.getElem_mem hk)
        obtain ⟨n1, e1, q1⟩ := shift_ok cs[k].arr c.dep start hkk.arr hcok.dep hs
        obtain ⟨n2, e2, q2⟩ := shift_ok cs[k].dep c.dep start hkk.dep hcok.dep hs
        have hkOk : kOkAt cs c.dep start k = (mvOk cs[k].arr c.dep start && mvOk cs[k].dep c.dep start) := by unfold kOkAt; rw [List.getElem?_eq_getElem hk]; rfl
        have hroom : ∀ X : PV, (((cs.take k).map (fun x => (mvK x c.dep start).pv)) ++ [X]).length * 32 ≤ roomBound ∧ 0 < 32 := fun X => by
          refine ⟨?_, by decide⟩
          simp only [List.length_append, List.length_map, List.length_take, List.length_cons, List.length_nil]
          unfold roomBound; omega
        simp only [ref18_Calls_L1, decide_eq_true_eq, List.length_map, h1, if_true, idxP_nat, List.getElem?_map, List.getElem?_eq_getElem hk, Option.map_some, bind_some', kall0, kall1, kall2, kall3, kall4, asInt, e1, e2, asTup, asBool, List.length_cons, List.length_nil, Nat.reduceAdd, List.getD_cons_zero, List.getD_cons_succ, if_pos (hroom _), wrap_nat (show k < 9223372036854775807 by omega)]
        rw [hkOk]
        cases hA : mvOk cs[k].arr c.dep start with
        | false => simp [orFin]
        | true =>
          cases hB : mvOk cs[k].dep c.dep start with
          | false => simp [orFin]
          | true =>
            have ht : cs.take (k + 1) = cs.take k ++ [cs[k]] := (List.take_append_getElem hk).symm
            rw [ht, q1 hA, q2 hB]
            simp only [Bool.not_true, cond_false, bind_some', Bool.false_eq_true, if_false, Bool.and_true, if_true, orFin, List.map_append, List.map_cons, List.map_nil, mvK, Kall.pv]
      · simp only [ref18_Calls_L1, decide_eq_true_eq, List.length_map, Int.lt_irrefl, if_false, List.take_length]
      · have : 40 < rounds := by decide
        omega
    rw [hmain, findSome_const, hcE]
    by_cases hall : (List.range cs.length).all (kOkAt cs c.dep start) = true
    · rw [if_pos hall, if_pos hall]; exact ⟨_, rfl⟩
    · rw [if_neg hall, if_neg hall]; exact ⟨_, rfl⟩

/-! ### the numbers of a frequency -/
theorem freq0 (x : Freq) : cell x.pv 0 = .int .i64 x.trip := rfl
theorem freq1 (x : Freq) : cell x.pv 1 = .int .i64 x.t0 := rfl
theorem freq2 (x : Freq) : cell x.pv 2 = .int .i64 x.t1 := rfl
theorem freq3 (x : Freq) : cell x.pv 3 = .int .i64 x.every := rfl
theorem freqA (x : Freq) : asAgg 4 x.pv = some () := rfl
theorem freqE (x : Freq) : PV.agg [.int .i64 x.trip, .int .i64 x.t0, .int .i64 x.t1, .int .i64 x.every] = x.pv := rfl
theorem tripE (x : Trip) : PV.agg [.str x.id, .int .i64 x.route, .int .i64 x.cal, .bool x.free, .rs 5 (x.calls.map Kall.pv)] = x.pv := rfl
def soundB (x : Freq) : Bool := decide (x.t0 ≥ 0) && decide (x.t0 < x.t1) && decide (x.t1 ≤ 172800) && decide (x.every ≥ 1) && decide (x.every ≤ 86400)
theorem sound_iff (x : Freq) : soundB x = true ↔ 0 ≤ x.t0 ∧ x.t0 < x.t1 ∧ x.t1 ≤ 172800 ∧ 1 ≤ x.every ∧ x.every ≤ 86400 := by
  simp [soundB, and_assoc]
theorem fsound_prog (x : Freq) : frequency_sound_M [x.pv] = some (.bool (soundB x)) := by
  simp only [frequency_sound_M, frequency_sound, freqA, freq0, freq1, freq2, freq3, asInt, if_true, bind_some', bif_and]
  rfl
theorem fsound_ref (x : Freq) : ref18_Sound_M [x.pv] = some (.bool (soundB x)) := by
  simp only [ref18_Sound_M, ref18_Sound, freqA, freq0, freq1, freq2, freq3, asInt, if_true, bind_some', bif_and]
  have : ∀ a b : Bool, a = b → some (PV.bool a) = some (PV.bool b) := fun a b h => by rw [h]
  apply this
  rw [Bool.eq_iff_iff, sound_iff]
  simp only [Bool.and_eq_true, decide_eq_true_eq]
  omega
def cntF (x : Freq) : Int := (x.t1 - x.t0 - 1) / x.every + 1
theorem cnt_le (x : Freq) (h : soundB x = true) : 1 ≤ cntF x ∧ cntF x ≤ 172800 := by
  obtain ⟨h1, h2, h3, h4, h5⟩ := (sound_iff x).1 h
  unfold cntF
  have a := Int.ediv_nonneg (show 0 ≤ x.t1 - x.t0 - 1 by omega) (show 0 ≤ x.every by omega)
  have b := Int.ediv_le_self (b := x.every) (show 0 ≤ x.t1 - x.t0 - 1 by omega)
  omega
theorem cnt_prog (x : Freq) (h : soundB x = true) : frequency_count_M [x.pv] = some (.int .i64 (cntF x)) := by
  have hc := cnt_le x h
  obtain ⟨h1, h2, h3, h4, h5⟩ := (sound_iff x).1 h
  have w1 : IntKind.i64.wrap (x.t1 - x.t0) = x.t1 - x.t0 := wrap_in (by omega) (by omega)
  have w2 : IntKind.i64.wrap (x.t1 - x.t0 + x.every) = x.t1 - x.t0 + x.every := wrap_in (by omega) (by omega)
  have w3 : IntKind.i64.wrap (x.t1 - x.t0 + x.every - 1) = x.t1 - x.t0 + x.every - 1 := wrap_in (by omega) (by omega)
  have e : (x.t1 - x.t0 + x.every - 1).tdiv x.every = cntF x := by
    rw [Int.tdiv_eq_ediv_of_nonneg (by omega)]
    unfold cntF
    have : x.t1 - x.t0 + x.every - 1 = (x.t1 - x.t0 - 1) + 1 * x.every := by omega
    rw [this, Int.add_mul_ediv_right _ _ (by omega)]
  simp only [frequency_count_M, frequency_count, freqA, freq0, freq1, freq2, freq3, asInt, if_true, bind_some', w1, w2, w3, e, if_neg (show ¬ x.every = 0 by omega)]
  rw [wrap_in (by omega) (by omega)]
theorem cnt_ref (x : Freq) (h : soundB x = true) : ref18_count_M [x.pv] = some (.int .i64 (cntF x)) := by
  have hc := cnt_le x h
  obtain ⟨h1, h2, h3, h4, h5⟩ := (sound_iff x).1 h
  have w1 : IntKind.i64.wrap (x.t1 - x.t0) = x.t1 - x.t0 := wrap_in (by omega) (by omega)
  have w2 : IntKind.i64.wrap (x.t1 - x.t0 - 1) = x.t1 - x.t0 - 1 := wrap_in (by omega) (by omega)
  have e : (x.t1 - x.t0 - 1).tdiv x.every = cntF x - 1 := by
    rw [Int.tdiv_eq_ediv_of_nonneg (by omega)]
    unfold cntF; omega
  simp only [ref18_count_M, ref18_count, freqA, freq0, freq1, freq2, freq3, asInt, if_true, bind_some', w1, w2, e, if_neg (show ¬ x.every = 0 by omega)]
  rw [wrap_in (x := cntF x - 1) (by omega) (by omega), wrap_in (by omega) (by omega)]
  congr 2; omega
def lastF (x : Freq) : Int := x.t0 + (cntF x - 1) * x.every
theorem mul_le (x : Freq) (h : soundB x = true) : 0 ≤ (cntF x - 1) * x.every ∧ (cntF x - 1) * x.every ≤ x.t1 - x.t0 - 1 ∧ x.t1 - x.t0 ≤ cntF x * x.every := by
  obtain ⟨h1, h2, h3, h4, h5⟩ := (sound_iff x).1 h
  have e : cntF x - 1 = (x.t1 - x.t0 - 1) / x.every := by unfold cntF; omega
  have e2 : cntF x * x.every = (cntF x - 1) * x.every + x.every := by rw [Int.sub_mul]; omega
  rw [e2, e]
  have a := Int.mul_ediv_add_emod (x.t1 - x.t0 - 1) x.every
  have b := Int.emod_lt_of_pos (x.t1 - x.t0 - 1) (show 0 < x.every by omega)
  have c := Int.emod_nonneg (x.t1 - x.t0 - 1) (show x.every ≠ 0 by omega)
  have d := Int.mul_nonneg (Int.ediv_nonneg (show 0 ≤ x.t1 - x.t0 - 1 by omega) (show 0 ≤ x.every by omega)) (show 0 ≤ x.every by omega)
  have f := Int.mul_comm x.every ((x.t1 - x.t0 - 1) / x.every)
  omega
theorem last_prog (x : Freq) (h : soundB x = true) : frequency_last_M [x.pv] = some (.int .i64 (lastF x)) := by
  have hc := cnt_le x h
  have hml := mul_le x h
  obtain ⟨h1, h2, h3, h4, h5⟩ := (sound_iff x).1 h
  have w1 : IntKind.i64.wrap (cntF x - 1) = cntF x - 1 := wrap_in (by omega) (by omega)
  have w2 : IntKind.i64.wrap ((cntF x - 1) * x.every) = (cntF x - 1) * x.every := wrap_in (by omega) (by omega)
  have w3 : IntKind.i64.wrap (x.t0 + (cntF x - 1) * x.every) = lastF x := wrap_in (by omega) (by omega)
  simp only [frequency_last_M, frequency_last, freqA, freq0, freq1, freq2, freq3, asInt, if_true, bind_some', freqE, cnt_prog x h, w1, w2, w3]
def startsL (x : Freq) (n : Nat) : List PV := (List.range n).map fun (j : Nat) => PV.int .i64 (x.t0 + (j : Int) * x.every)
theorem starts_ref (x : Freq) (h : soundB x = true) : ref18_Starts_M [x.pv] = some (.rs 1 (startsL x (cntF x).toNat)) := by
  have hc := cnt_le x h
  have hml := mul_le x h
  obtain ⟨h1, h2, h3, h4, h5⟩ := (sound_iff x).1 h
  simp only [ref18_Starts_M, ref18_Starts, freqA, freq0, freq1, freq2, freq3, asInt, asBool, if_true, bind_some', freqE, fsound_ref, h, Bool.not_true, Bool.false_eq_true, if_false]
  refine loop_until (fun k => (x.t0 + (k : Int) * x.every, x.trip, x.t0, x.t1, x.every, startsL x k, ())) (cntF x).toNat (fun k hk rec => ?_) (fun rec => ?_) ?_ ?_
  · have hk2 : (k : Int) ≤ cntF x - 1 := by omega
    have hmono : (k : Int) * x.every ≤ (cntF x - 1) * x.every := Int.mul_le_mul_of_nonneg_right hk2 (by omega)
    have hge : 0 ≤ (k : Int) * x.every := Int.mul_nonneg (by omega) (by omega)
    have hlt : x.t0 + (k : Int) * x.every < x.t1 := by omega
    have hroom : (startsL x k ++ [PV.int .i64 (x.t0 + (k : Int) * x.every)]).length * 8 ≤ roomBound ∧ 0 < 8 := by
      refine ⟨?_, by decide⟩
      simp only [startsL, List.length_append, List.length_map, List.length_range, List.length_cons, List.length_nil]
      unfold roomBound; omega
    have hsuc : ((k + 1 : Nat) : Int) * x.every = (k : Int) * x.every + x.every := by rw [Int.natCast_add, Int.add_mul]; simp
    have hw : IntKind.i64.wrap (x.t0 + (k : Int) * x.every + x.every) = x.t0 + ((k + 1 : Nat) : Int) * x.every := by
      rw [hsuc, wrap_in (by omega) (by omega)]; omega
    have hs : startsL x (k + 1) = startsL x k ++ [PV.int .i64 (x.t0 + (k : Int) * x.every)] := by
      simp [startsL, List.range_succ]
    simp only [ref18_Starts_L1, decide_eq_true_eq, hlt, if_true, if_pos hroom, hw, hs]
  · have he : (((cntF x).toNat : Nat) : Int) * x.every = cntF x * x.every := by rw [Int.toNat_of_nonneg (by omega)]
    have hlt : ¬ x.t0 + (((cntF x).toNat : Nat) : Int) * x.every < x.t1 := by rw [he]; omega
    simp only [ref18_Starts_L1, decide_eq_true_eq, if_neg hlt]
  · have : 172801 < rounds := by decide
    omega
  · simp [startsL]
/-! ### whether a trip fits -/
def fitsB (x : Trip) (f : Freq) : Bool := decide (callsE x.calls f.t0 ≠ 10) && decide (callsE x.calls (lastF f) ≠ 10)
theorem callsE_cases (c : Kall) (l : List Kall) (s : Int) : callsE (c :: l) s = 0 ∨ callsE (c :: l) s = 10 := by
  show (if (List.range (c :: l).length).all (kOkAt (c :: l) c.dep s) = true then (0 : Int) else 10) = 0 ∨ (if (List.range (c :: l).length).all (kOkAt (c :: l) c.dep s) = true then (0 : Int) else 10) = 10
  by_cases h : (List.range (c :: l).length).all (kOkAt (c :: l) c.dep s) = true
  · rw [if_pos h]; exact .inl rfl
  · rw [if_neg h]; exact .inr rfl
theorem last_le (x : Freq) (h : soundB x = true) : 0 ≤ lastF x ∧ lastF x ≤ 172800 := by
  have hml := mul_le x h
  obtain ⟨h1, h2, h3, h4, h5⟩ := (sound_iff x).1 h
  unfold lastF; omega
theorem fits_prog (x : Trip) (hx : x.Ok) (h40 : x.calls.length ≤ 40) (f : Freq) (hf : soundB f = true) : frequency_fits_M [x.pv, f.pv] = some (.bool (fitsB x f)) := by
  obtain ⟨h1, h2, h3, h4, h5⟩ := (sound_iff f).1 hf
  have hl := last_le f hf
  obtain ⟨es1, e1⟩ := fcalls_ok x hx f.t0 ((i64_iff _).2 (by omega)) h40
  obtain ⟨es2, e2⟩ := fcalls_ok x hx (lastF f) ((i64_iff _).2 (by omega)) h40
  simp only [frequency_fits_M, frequency_fits, tripA, trip0, trip1, trip2, trip3, trip4, freqA, freq0, freq1, freq2, freq3, asStr, asSl, asInt, asBool, if_true, bind_some', List.length_map, freqE, tripE, last_prog f hf, e1, e2, asTup, List.length_cons, List.length_nil, Nat.reduceAdd, List.getD_cons_zero, List.getD_cons_succ, bif_and]
  unfold fitsB
  cases hcs : x.calls with
  | nil => rfl
  | cons c l =>
    have hne : (((c :: l).length : Int) == 0) = false := by rw [beq_eq_false_iff_ne]; simp; omega
    rw [hne]
    simp only [Bool.false_eq_true, if_false]
    rcases callsE_cases c l f.t0 with h | h <;> rcases callsE_cases c l (lastF f) with h' | h' <;> rw [h, h'] <;> rfl
theorem fits_ref (x : Trip) (hx : x.Ok) (h40 : x.calls.length ≤ 40) (f : Freq) (hf : soundB f = true) : ref18_fits_M [x.pv, f.pv] = some (.bool (fitsB x f)) := by
  have hc := cnt_le f hf
  obtain ⟨h1, h2, h3, h4, h5⟩ := (sound_iff f).1 hf
  have hl := last_le f hf
  obtain ⟨es1, e1⟩ := rcalls_ok x hx f.t0 (by omega) h40
  obtain ⟨es2, e2⟩ := rcalls_ok x hx (lastF f) hl h40
  have hlen : (startsL f (cntF f).toNat).length = (cntF f).toNat := by simp [startsL]
  have hi0 : idxP (startsL f (cntF f).toNat) 0 = some (.int .i64 f.t0) := by
    rw [show (0 : Int) = ((0 : Nat) : Int) from rfl, idxP_nat]
    simp only [startsL, List.getElem?_map, List.getElem?_range (show 0 < (cntF f).toNat by omega), Option.map_some]
    simp
  have hw : IntKind.i64.wrap (((cntF f).toNat : Int) - 1) = (((cntF f).toNat - 1 : Nat) : Int) := by
    rw [wrap_in (by omega) (by omega)]; omega
  have hi1 : idxP (startsL f (cntF f).toNat) (((cntF f).toNat - 1 : Nat) : Int) = some (.int .i64 (lastF f)) := by
    rw [idxP_nat]
    simp only [startsL, List.getElem?_map, List.getElem?_range (show (cntF f).toNat - 1 < (cntF f).toNat by omega), Option.map_some]
    have : (((cntF f).toNat - 1 : Nat) : Int) = cntF f - 1 := by omega
    rw [this]; rfl
  have hci : ∀ n : Int, cell (.int .i64 n) 0 = .int .i64 n := fun _ => rfl
  simp only [ref18_fits_M, ref18_fits, tripA, trip0, trip1, trip2, trip3, trip4, freqA, freq0, freq1, freq2, freq3, asStr, asSl, asInt, asBool, if_true, bind_some', List.length_map, freqE, tripE, starts_ref f hf, hlen, hi0, hw, hi1, hci, e1, e2, asTup, List.length_cons, List.length_nil, Nat.reduceAdd, List.getD_cons_zero, List.getD_cons_succ, bif_and, bne_d]
  unfold fitsB
  simp
end Go.Ab.Tt
namespace Go.Ab.Tt

def fitsAt (trips : List Trip) (f : Freq) : Bool := match trips[f.trip.toNat]? with | some x => fitsB x f | none => true
def sumS (l : List Freq) (f : Freq) (k : Nat) : Int := ((l.take k).map fun g => if g.trip = f.trip then cntF g else 0).sum
def meetB (f g : Freq) : Bool := decide (g.trip = f.trip) && (decide (g.t0 < f.t1) && decide (f.t0 < g.t1))
def anyM (l : List Freq) (f : Freq) (k : Nat) : Bool := (l.take k).any (meetB f)
def freqErr (l : List Freq) (trips : List Trip) (k : Nat) : Int := match l[k]? with
  | none => 0
  | some f => if (decide (f.trip < 0) || decide (f.trip ≥ (trips.length : Int))) = true then 9 else if (!soundB f || !fitsAt trips f) = true then 10 else if cntF f + sumS l f k > 256 then 17 else if anyM l f k = true then 8 else 0
def freqRes (l : List Freq) (trips : List Trip) : Int × Int := if l.length > 64 then (0, 5) else scanE (freqErr l trips) l.length
theorem sumS_succ (l : List Freq) (f : Freq) (k : Nat) (h : k < l.length) : sumS l f (k + 1) = sumS l f k + if l[k].trip = f.trip then cntF l[k] else 0 := by
  unfold sumS
  have h2 : l.take (k + 1) = l.take k ++ [l[k]] := (List.take_append_getElem h).symm
  rw [h2, List.map_append, List.sum_append]
  simp only [List.map_cons, List.map_nil, List.sum_cons, List.sum_nil, Int.add_zero]
theorem anyM_succ (l : List Freq) (f : Freq) (k : Nat) (h : k < l.length) : anyM l f (k + 1) = (anyM l f k || meetB f l[k]) := by
  unfold anyM
  have h2 : l.take (k + 1) = l.take k ++ [l[k]] := (List.take_append_getElem h).symm
  rw [h2, List.any_append]
  simp only [List.any_cons, List.any_nil, Bool.or_false]
theorem sumS_bound (l : List Freq) (f : Freq) : ∀ k, k ≤ l.length → (∀ j (h : j < l.length), j < k → soundB l[j] = true) → 0 ≤ sumS l f k ∧ sumS l f k ≤ 172800 * (k : Int) := by
  intro k
  induction k with
  | zero => intro _ _; simp [sumS]
  | succ k ih =>
    intro hk hq
    have := ih (by omega) fun j h hj => hq j h (by omega)
    rw [sumS_succ l f k (by omega)]
    have hc := cnt_le l[k] (hq k (by omega) (by omega))
    split <;> omega
theorem freqErr_sound (l : List Freq) (trips : List Trip) (k : Nat) (h : k < l.length) (he : freqErr l trips k = 0) : soundB l[k] = true := by
  unfold freqErr at he
  rw [List.getElem?_eq_getElem h] at he
  simp only at he
  cases hs : soundB l[k] with
  | true => rfl
  | false =>
    rw [hs] at he
    split at he
    · cases he
    · simp at he
theorem freq_prog (l : List Freq) (trips : List Trip) (ht : trips.length ≤ maxLen ∧ ∀ y ∈ trips, y.Ok) (h40 : ∀ y ∈ trips, y.calls.length ≤ 40) (hl : l.length ≤ maxLen) : frequency_Check_M [.rs 4 (l.map Freq.pv), .rs 5 (trips.map Trip.pv)] = some (res (freqRes l trips).1 (freqRes l trips).2) := by
  have hm := maxLen_lt
  simp only [frequency_Check_M, frequency_Check, asSl, if_true, bind_some', List.length_map]
  unfold freqRes
  by_cases h64 : l.length > 64
  · rw [if_pos (by simp; omega), if_pos h64]; rfl
  · rw [if_neg (by simp; omega), if_neg h64, ← scanE_eq]
    refine loop_scan_inv (fun k => (l.map Freq.pv, trips.map Trip.pv, l.map Freq.pv, (l.length : Int), (k : Int), ())) l.length _ (fun k hk hq rec => ?_) (fun _ rec => ?_) ?_ rfl
    · have h1 : (k : Int) < (l.length : Int) := by omega
      have hsnd : ∀ j (h : j < l.length), j < k → soundB l[j] = true := fun j h hj => by
        have hqj := hq j hj
        refine freqErr_sound l trips j h ?_
        unfold errAt at hqj
        by_cases he : freqErr l trips j = 0
        · exact he
        · rw [if_neg he] at hqj; cases hqj
      simp only [frequency_Check_L2, decide_eq_true_eq, h1, if_true, idxP_nat, List.getElem?_map, List.getElem?_eq_getElem hk, Option.map_some, bind_some', freq0, freq1, freq2, freq3, asInt, asBool, freqE, List.length_map, bif_or', fsound_prog]
      unfold freqErr
      rw [List.getElem?_eq_getElem hk]
      simp only
      generalize hf : l[k] = f
      by_cases hr : f.trip < 0 ∨ f.trip ≥ (trips.length : Int)
      · have : (decide (f.trip < 0) || decide (f.trip ≥ (trips.length : Int))) = true := by simpa using hr
        rw [this]; rfl
      · have hr2 : (decide (f.trip < 0) || decide (f.trip ≥ (trips.length : Int))) = false := by simpa using hr
        simp only [hr2, Bool.false_eq_true, if_false]
        obtain ⟨t, htt⟩ := Int.eq_ofNat_of_zero_le (show 0 ≤ f.trip by omega)
        have htl : t < trips.length := by omega
        cases hs : soundB f with
        | false => rfl
        | true =>
          have hfa : fitsAt trips f = fitsB trips[t] f := by unfold fitsAt; rw [htt, Int.toNat_natCast, List.getElem?_eq_getElem htl]
          have hfp := fits_prog trips[t] (ht.2 _ (List.getElem_mem htl)) (h40 _ (List.getElem_mem htl)) f hs
          have hidx : idxP (trips.map Trip.pv) f.trip = some trips[t].pv := by rw [htt, idxP_nat, List.getElem?_map, List.getElem?_eq_getElem htl]; rfl
          simp only [hidx, Bool.not_true, cond_false, bind_some', trip0, trip1, trip2, trip3, trip4, tripE, hfp, asBool, hfa, Bool.false_or]
          cases hfb : fitsB trips[t] f with
          | false => rfl
          | true =>
            have hc : (0 : Int) ≤ 0 ∧ (0 : Int) ≤ (k : Int) ∧ (k : Int) ≤ (l.length : Int) ∧ True ∧ 4 ≠ 0 := ⟨by omega, by omega, by omega, trivial, by decide⟩
            have hcf := cnt_le f hs
            have hlt : (List.map Freq.pv l).take k = (l.take k).map Freq.pv := by rw [List.map_take]
            simp only [Bool.not_true, Bool.false_eq_true, if_false, cnt_prog f hs, bind_some', asInt, if_true, Int.toNat_natCast, Int.toNat_zero, List.drop_zero, hlt, List.length_map, List.length_take, Nat.min_eq_left (Nat.le_of_lt hk)]
            rw [if_pos hc]
            refine loop_until (fun j => (l.map Freq.pv, trips.map Trip.pv, (k : Int), cntF f + sumS l f j, anyM l f j, l.map Freq.pv, (l.length : Int), (k : Int), (l.take k).map Freq.pv, (k : Int), (j : Int), PV.int .i64 f.trip, PV.int .i64 f.t0, PV.int .i64 f.t1, PV.int .i64 f.every, ())) k (fun j hj rc => ?_) (fun rc => ?_) ?_ ?_
            · have hj1 : (j : Int) < (k : Int) := by omega
              have hjl : j < l.length := by omega
              have hgl : (l.take k)[j]? = some l[j] := by rw [List.getElem?_take_of_lt hj, List.getElem?_eq_getElem hjl]
              have hsj := hsnd j hjl hj
              have hcj := cnt_le l[j] hsj
              have hb := sumS_bound l f j (by omega) fun i h hi => hsnd i h (by omega)
              simp only [frequency_Check_L1, decide_eq_true_eq, hj1, if_true, idxP_nat, List.getElem?_map, hgl, Option.map_some, bind_some', freq0, freq1, freq2, freq3, asInt, freqE, beq_d, wrap_nat (show j < 9223372036854775807 by omega), bif_and, bif_or']
              rw [sumS_succ l f j hjl, anyM_succ l f j hjl]
              by_cases he : l[j].trip = f.trip
              · rw [if_pos he, if_pos he, cnt_prog l[j] hsj]
                have hw : IntKind.i64.wrap (cntF f + sumS l f j + cntF l[j]) = cntF f + (sumS l f j + cntF l[j]) := by rw [wrap_in (by omega) (by omega)]; omega
                simp only [bind_some', hw]
                simp only [meetB, he, decide_true, Bool.true_and, asInt, if_true, bind_some', hw]
              · rw [if_neg he, if_neg he]
                simp only [meetB, he, decide_false, Bool.false_and, Bool.or_false, Int.add_zero]
            · simp only [frequency_Check_L1, decide_eq_true_eq, Int.lt_irrefl, if_false, wrap_nat (show k < 9223372036854775807 by omega)]
              by_cases h256 : cntF f + sumS l f k > 256
              · rw [if_pos h256, if_pos h256]; rfl
              · rw [if_neg h256, if_neg h256]
                cases anyM l f k <;> rfl
            · have : 64 < rounds := by decide
              omega
            · simp [sumS, anyM]
    · simp only [frequency_Check_L2, decide_eq_true_eq, Int.lt_irrefl, if_false]; rfl
    · have := rounds_gt; omega

theorem freq_ref (l : List Freq) (trips : List Trip) (ht : trips.length ≤ maxLen ∧ ∀ y ∈ trips, y.Ok) (h40 : ∀ y ∈ trips, y.calls.length ≤ 40) (hl : l.length ≤ maxLen) : ref18_Check_M [.rs 4 (l.map Freq.pv), .rs 5 (trips.map Trip.pv)] = some (res (freqRes l trips).1 (freqRes l trips).2) := by
  have hm := maxLen_lt
  simp only [ref18_Check_M, ref18_Check, asSl, if_true, bind_some', List.length_map]
  unfold freqRes
  by_cases h64 : l.length > 64
  · rw [if_pos (by simp; omega), if_pos h64]; rfl
  · rw [if_neg (by simp; omega), if_neg h64, ← scanE_eq]
    refine loop_scan_inv (fun k => (l.map Freq.pv, trips.map Trip.pv, (k : Int), ())) l.length _ (fun k hk hq rec => ?_) (fun _ rec => ?_) ?_ rfl
    · have h1 : (k : Int) < (l.length : Int) := by omega
      have hsnd : ∀ j (h : j < l.length), j < k → soundB l[j] = true := fun j h hj => by
        have hqj := hq j hj
        refine freqErr_sound l trips j h ?_
        unfold errAt at hqj
        by_cases he : freqErr l trips j = 0
        · exact he
        · rw [if_neg he] at hqj; cases hqj
      simp only [ref18_Check_L2, decide_eq_true_eq, h1, if_true, idxP_nat, List.getElem?_map, List.getElem?_eq_getElem hk, Option.map_some, bind_some', freq0, freq1, freq2, freq3, asInt, asBool, freqE, List.length_map, bif_or', fsound_ref]
      unfold freqErr
      rw [List.getElem?_eq_getElem hk]
      simp only
      generalize hf : l[k] = f
      by_cases hr : f.trip < 0 ∨ f.trip ≥ (trips.length : Int)
      · have : (decide (f.trip < 0) || decide (f.trip ≥ (trips.length : Int))) = true := by simpa using hr
        rw [this]; rfl
      · have hr2 : (decide (f.trip < 0) || decide (f.trip ≥ (trips.length : Int))) = false := by simpa using hr
        simp only [hr2, Bool.false_eq_true, if_false]
        obtain ⟨t, htt⟩ := Int.eq_ofNat_of_zero_le (show 0 ≤ f.trip by omega)
        have htl : t < trips.length := by omega
        cases hs : soundB f with
        | false => rfl
        | true =>
          have hfa : fitsAt trips f = fitsB trips[t] f := by unfold fitsAt; rw [htt, Int.toNat_natCast, List.getElem?_eq_getElem htl]
          have hfp := fits_ref trips[t] (ht.2 _ (List.getElem_mem htl)) (h40 _ (List.getElem_mem htl)) f hs
          have hidx : idxP (trips.map Trip.pv) f.trip = some trips[t].pv := by rw [htt, idxP_nat, List.getElem?_map, List.getElem?_eq_getElem htl]; rfl
          simp only [hidx, Bool.not_true, cond_false, bind_some', trip0, trip1, trip2, trip3, trip4, tripE, hfp, asBool, hfa, Bool.false_or]
          cases hfb : fitsB trips[t] f with
          | false => rfl
          | true =>
            have hcf := cnt_le f hs
            simp only [Bool.not_true, Bool.false_eq_true, if_false]
            refine loop_until (fun j => (l.map Freq.pv, trips.map Trip.pv, (k : Int), sumS l f j, anyM l f (min j k), (j : Int), PV.int .i64 f.trip, PV.int .i64 f.t0, PV.int .i64 f.t1, PV.int .i64 f.every, ())) (k + 1) (fun j hj rc => ?_) (fun rc => ?_) ?_ ?_
            · have hj1 : (j : Int) ≤ (k : Int) := by omega
              have hjl : j < l.length := by omega
              have hsj : soundB l[j] = true := by
                by_cases h : j = k
                · subst h; rw [hf]; exact hs
                · exact hsnd j hjl (by omega)
              have hcj := cnt_le l[j] hsj
              have hb := sumS_bound l f j (by omega) fun i h hi => hsnd i h (by omega)
              simp only [ref18_Check_L1, decide_eq_true_eq, hj1, if_true, idxP_nat, List.getElem?_map, List.getElem?_eq_getElem hjl, Option.map_some, bind_some', freq0, freq1, freq2, freq3, asInt, freqE, bne_d, wrap_nat (show j < 9223372036854775807 by omega)]
              rw [sumS_succ l f j hjl]
              have hmin : anyM l f (min (j + 1) k) = (anyM l f (min j k) || (decide (j < k) && meetB f l[j])) := by
                by_cases h : j < k
                · rw [Nat.min_eq_left (by omega), Nat.min_eq_left (by omega), anyM_succ l f j hjl]; simp [h]
                · rw [Nat.min_eq_right (by omega), Nat.min_eq_right (by omega)]; simp [h]
              rw [hmin]
              by_cases he : l[j].trip = f.trip
              · have hw : IntKind.i64.wrap (sumS l f j + cntF l[j]) = sumS l f j + cntF l[j] := wrap_in (by omega) (by omega)
                simp only [he, decide_true, Bool.not_true, Bool.false_eq_true, if_false, cnt_ref l[j] hsj, bind_some', asInt, if_true, hw, meetB, Bool.true_and, bif_and]
                have hd : decide ((j : Int) < (k : Int)) = decide (j < k) := by rw [Bool.eq_iff_iff]; simp
                rw [hd]
                cases decide (j < k) <;> cases decide (l[j].t0 < f.t1) <;> cases decide (f.t0 < l[j].t1) <;> cases anyM l f (min j k) <;> rfl
              · simp only [he, decide_false, Bool.not_false, if_true, if_false, meetB, Bool.false_and, Bool.and_false, Bool.or_false, Int.add_zero]
            · have hlt : ¬ ((k + 1 : Nat) : Int) ≤ (k : Int) := by omega
              have hsum : sumS l f (k + 1) = cntF f + sumS l f k := by rw [sumS_succ l f k hk, hf, if_pos rfl]; omega
              simp only [ref18_Check_L1, decide_eq_true_eq, if_neg hlt, wrap_nat (show k < 9223372036854775807 by omega), hsum, Nat.min_eq_right (Nat.le_succ k)]
              by_cases h256 : cntF f + sumS l f k > 256
              · rw [if_pos h256, if_pos h256]; rfl
              · rw [if_neg h256, if_neg h256]
                cases anyM l f k <;> rfl
            · have : 100 < rounds := by decide
              omega
            · simp [sumS, anyM]
    · simp only [ref18_Check_L2, decide_eq_true_eq, List.length_map, Int.lt_irrefl, if_false]; rfl
    · have := rounds_gt; omega
end Go.Ab.Tt
