/- The calls of a trip that is started at a time: the program and the document give the same. -/
import Derived.Test.YtinbhofpofcmeaaGreatDoorRnB
namespace Go.Ab.Tt
set_option maxRecDepth 100000
set_option linter.unusedVariables false
set_option linter.unusedSimpArgs false

theorem fcalls_eq (x : Trip) (hx : x.Ok) (start : Int) (hs : I64 start) (h40 : x.calls.length ≤ 40) : frequency_Calls_M [x.pv, .int .i64 start] = some (.tup [.rs 5 ((fcallsK x.calls start).map Kall.pv), .int .i64 (callsE x.calls start)]) := by
  have hm := maxLen_lt
  have hkall : ∀ y ∈ x.calls, y.Ok := hx.calls.2
  simp only [frequency_Calls_M, frequency_Calls, tripA, trip0, trip1, trip2, trip3, trip4, asStr, asSl, asInt, asBool, if_true, bind_some', List.length_map]
  generalize x.calls = l at h40 hkall ⊢
  cases l with
  | nil => rfl
  | cons c l =>
    generalize hl : c :: l = cs at h40 hkall ⊢
    have hc0 : cs[0]? = some c := by rw [← hl]; rfl
    have hpos : 0 < cs.length := by rw [← hl]; simp
    have hcE : callsE cs start = if (List.range cs.length).all (kOkAt cs c.dep start) = true then 0 else 10 := by rw [← hl]; rfl
    have hcok : c.Ok := hkall c (by rw [← hl]; simp)
    have hne : ((cs.length : Int) == 0) = false := by rw [beq_eq_false_iff_ne]; omega
    have hix : idxP (cs.map Kall.pv) 0 = some c.pv := by
      have := idxP_nat (cs.map Kall.pv) 0
      simp only [Int.ofNat_eq_natCast, Int.natCast_zero] at this
      rw [show (0 : Int) = ((0 : Nat) : Int) from rfl, idxP_nat, List.getElem?_map, hc0]; rfl
    have hroom : 0 ≤ (cs.length : Int) ∧ (cs.length : Int) ≤ (cs.length : Int) ∧ (cs.length : Int).toNat * 32 ≤ roomBound ∧ 0 < 32 ∧ 0 < 5 := by
      refine ⟨by omega, by omega, ?_, by decide, by decide⟩
      unfold roomBound; omega
    rw [hne, hix]
    simp only [Bool.false_eq_true, if_false, bind_some', kall2, asInt, if_true, if_pos hroom, List.length_replicate, Int.toNat_natCast, List.take_of_length_le (Nat.le_of_eq (List.length_map _)), List.length_map]
    rw [List.drop_of_length_le (by simp), List.append_nil, List.length_map]
    have hroom2 : 0 ≤ (cs.length : Int) ∧ (cs.length : Int) ≤ (cs.length : Int) ∧ cs.length * 32 ≤ roomBound ∧ 0 < 32 ∧ 0 < 5 := hroom
    have hmain : lpS.run frequency_Calls_L1 (start, c.dep, (cs.length : Int), 0, cs.map Kall.pv, ()) = orFin ((List.range cs.length).findSome? fun k => if kOkAt cs c.dep start k = true then none else some (some (.tup [.rs 5 [], .int .i64 10]))) (some (.tup [.rs 5 (mix cs (fun x => mvK x c.dep start) cs.length), .int .i64 0])) := by
      refine loop_scan' (fun k => (start, c.dep, (cs.length : Int), (k : Int), mix cs (fun x => mvK x c.dep start) k, ())) cs.length _ (fun k hk rec => ?_) (fun rec => ?_) ?_ ?_
      · have h1 : (k : Int) < (cs.length : Int) := by omega
        have hkk : cs[k].Ok := hkall _ (List.getElem_mem hk)
        obtain ⟨n1, e1, q1⟩ := moved_ok cs[k].arr c.dep start hkk.arr hcok.dep hs
        obtain ⟨n2, e2, q2⟩ := moved_ok cs[k].dep c.dep start hkk.dep hcok.dep hs
        have hlen := mix_len cs (fun x => mvK x c.dep start) k (by omega)
        have hget := mix_get cs (fun x => mvK x c.dep start) k hk
        have hset := mix_set cs (fun x => mvK x c.dep start) k hk
        have hr : inRange (k : Int) cs.length := inRange_nat k _ hk
        have hkOk : kOkAt cs c.dep start k = (mvOk cs[k].arr c.dep start && mvOk cs[k].dep c.dep start) := by unfold kOkAt; rw [List.getElem?_eq_getElem hk]; rfl
        have hg2 : ∀ X, ((mix cs (fun x => mvK x c.dep start) k).set k X)[k]? = some X := fun X => by rw [List.getElem?_set_self (by rw [hlen]; exact hk)]
        simp only [frequency_Calls_L1, decide_eq_true_eq, h1, if_true, hlen, if_pos hr, Int.toNat_natCast, hget, bind_some', kall0, kall1, kall2, kall3, kall4, asInt, e1, e2, asTup, asBool, List.length_cons, List.length_nil, Nat.reduceAdd, List.getD_cons_zero, List.getD_cons_succ, List.length_set, hg2, cell_agg, over, List.set_set, wrap_nat (show k < 9223372036854775807 by omega)]
        rw [hkOk]
        cases hA : mvOk cs[k].arr c.dep start with
        | false => simp [orFin]
        | true =>
          cases hB : mvOk cs[k].dep c.dep start with
          | false => simp [orFin]
          | true =>
            rw [← hset, q1 hA, q2 hB]
            simp [orFin, mvK, Kall.pv]
      · simp only [frequency_Calls_L1, decide_eq_true_eq, Int.lt_irrefl, if_false]
      · have : 40 < rounds := by decide
        omega
      · simp only [mix_zero]; rfl
    have hF : fcallsK cs start = if (List.range cs.length).all (kOkAt cs c.dep start) = true then cs.map (fun x => mvK x c.dep start) else [] := by
      unfold fcallsK
      rw [hcE, show (cs.map Kall.dep).headD 0 = c.dep by rw [← hl]; rfl]
      by_cases hall : (List.range cs.length).all (kOkAt cs c.dep start) = true
      · rw [if_pos hall, if_pos hall, if_pos rfl]
      · rw [if_neg hall, if_neg hall, if_neg (by decide)]
    rw [if_pos hroom2, hmain, findSome_const, hcE, hF]
    by_cases hall : (List.range cs.length).all (kOkAt cs c.dep start) = true
    · rw [if_pos hall, if_pos hall, if_pos hall]
      simp [orFin, mix, List.map_map, Function.comp_def]
    · rw [if_neg hall, if_neg hall, if_neg hall]
      simp [orFin]

theorem rcalls_eq (x : Trip) (hx : x.Ok) (start : Int) (hs : 0 ≤ start ∧ start ≤ 172800) (h40 : x.calls.length ≤ 40) : ref18_Calls_M [x.pv, .int .i64 start] = some (.tup [.rs 5 ((fcallsK x.calls start).map Kall.pv), .int .i64 (callsE x.calls start)]) := by
  have hm := maxLen_lt
  have hkall : ∀ y ∈ x.calls, y.Ok := hx.calls.2
  simp only [ref18_Calls_M, ref18_Calls, tripA, trip0, trip1, trip2, trip3, trip4, asStr, asSl, asInt, asBool, if_true, bind_some', List.length_map]
  generalize x.calls = l at h40 hkall ⊢
  cases l with
  | nil => rfl
  | cons c l =>
    generalize hl : c :: l = cs at h40 hkall ⊢
    have hc0 : cs[0]? = some c := by rw [← hl]; rfl
    have hpos : 0 < cs.length := by rw [← hl]; simp
    have hcE : callsE cs start = if (List.range cs.length).all (kOkAt cs c.dep start) = true then 0 else 10 := by rw [← hl]; rfl
    have hcok : c.Ok := hkall c (by rw [← hl]; simp)
    have hne : ((cs.length : Int) == 0) = false := by rw [beq_eq_false_iff_ne]; omega
    have hix : idxP (cs.map Kall.pv) 0 = some c.pv := by
      rw [show (0 : Int) = ((0 : Nat) : Int) from rfl, idxP_nat, List.getElem?_map, hc0]; rfl
    rw [hne, hix]
    simp only [Bool.false_eq_true, if_false, bind_some', kall2, asInt, if_true]
    have hmain : lpS.run (ref18_Calls_L1 lpS) (start, c.dep, 0, x.id, x.route, x.cal, x.free, cs.map Kall.pv, [], ()) = orFin ((List.range cs.length).findSome? fun k => if kOkAt cs c.dep start k = true then none else some (some (.tup [.rs 5 [], .int .i64 10]))) (some (.tup [.rs 5 (cs.map fun x => (mvK x c.dep start).pv), .int .i64 0])) := by
      refine loop_scan' (fun k => (start, c.dep, (k : Int), x.id, x.route, x.cal, x.free, cs.map Kall.pv, (cs.take k).map (fun x => (mvK x c.dep start).pv), ())) cs.length _ (fun k hk rec => ?_) (fun rec => ?_) ?_ rfl
      · have h1 : (k : Int) < (cs.length : Int) := by omega
        have hkk : cs[k].Ok := hkall _ (List.getElem_mem hk)
        obtain ⟨n1, e1, q1⟩ := shift_ok cs[k].arr c.dep start hkk.arr hcok.dep hs
        obtain ⟨n2, e2, q2⟩ := shift_ok cs[k].dep c.dep start hkk.dep hcok.dep hs
        have hkOk : kOkAt cs c.dep start k = (mvOk cs[k].arr c.dep start && mvOk cs[k].dep c.dep start) := by unfold kOkAt; rw [List.getElem?_eq_getElem hk]; rfl
        have hroom : ∀ X : PV, (((cs.take k).map (fun x => (mvK x c.dep start).pv)) ++ [X]).length * 32 ≤ roomBound ∧ 0 < 32 := fun X => by
          refine ⟨?_, by decide⟩
          simp only [List.length_append, List.length_map, List.length_take, List.length_cons, List.length_nil]
          unfold roomBound; omega
        simp only [ref18_Calls_L1, decide_eq_true_eq, List.length_map, h1, if_true, idxP_nat, List.getElem?_map, List.getElem?_eq_getElem hk, Option.map_some, bind_some', kall0, kall1, kall2, kall3, kall4, asInt, e1, e2, asTup, asBool, List.length_cons, List.length_nil, Nat.reduceAdd, List.getD_cons_zero, List.getD_cons_succ, if_pos (hroom _), wrap_nat (show k < 9223372036854775807 by omega)]
        rw [hkOk]
        cases hA : mvOk cs[k].arr c.dep start with
        | false => simp [orFin]
        | true =>
          cases hB : mvOk cs[k].dep c.dep start with
          | false => simp [orFin]
          | true =>
            have ht : cs.take (k + 1) = cs.take k ++ [cs[k]] := (List.take_append_getElem hk).symm
            rw [ht, q1 hA, q2 hB]
            simp only [Bool.not_true, cond_false, bind_some', Bool.false_eq_true, if_false, Bool.and_true, if_true, orFin, List.map_append, List.map_cons, List.map_nil, mvK, Kall.pv]
      · simp only [ref18_Calls_L1, decide_eq_true_eq, List.length_map, Int.lt_irrefl, if_false, List.take_length]
      · have : 40 < rounds := by decide
        omega
    have hF : fcallsK cs start = if (List.range cs.length).all (kOkAt cs c.dep start) = true then cs.map (fun x => mvK x c.dep start) else [] := by
      unfold fcallsK
      rw [hcE, show (cs.map Kall.dep).headD 0 = c.dep by rw [← hl]; rfl]
      by_cases hall : (List.range cs.length).all (kOkAt cs c.dep start) = true
      · rw [if_pos hall, if_pos hall, if_pos rfl]
      · rw [if_neg hall, if_neg hall, if_neg (by decide)]
    rw [hmain, findSome_const, hcE, hF]
    by_cases hall : (List.range cs.length).all (kOkAt cs c.dep start) = true
    · rw [if_pos hall, if_pos hall, if_pos hall]
      simp [orFin, mix, List.map_map, Function.comp_def]
    · rw [if_neg hall, if_neg hall, if_neg hall]
      simp [orFin]
end Go.Ab.Tt
