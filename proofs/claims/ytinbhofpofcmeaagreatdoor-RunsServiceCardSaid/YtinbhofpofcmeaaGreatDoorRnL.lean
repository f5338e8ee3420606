/- The law RunsService. -/
import Derived.Test.YtinbhofpofcmeaaGreatDoorRnV
import Derived.Test.YtinbhofpofcmeaaGreatDoorRnX
namespace Go.Ab.Tt
set_option maxRecDepth 100000
set_option linter.unusedVariables false
set_option linter.unusedSimpArgs false

theorem tripC (x : Trip) : PV.agg [cell x.pv 0, cell x.pv 1, cell x.pv 2, cell x.pv 3, cell x.pv 4] = x.pv := rfl
theorem shK0 (D : Int) (c : Kall) : (shK D c).stop = c.stop := rfl
theorem shK1 (D : Int) (c : Kall) : (shK D c).arr = IntKind.i64.wrap (c.arr + D) := rfl
theorem shK2 (D : Int) (c : Kall) : (shK D c).dep = IntKind.i64.wrap (c.dep + D) := rfl
theorem shK3 (D : Int) (c : Kall) : (shK D c).board = c.board := rfl
theorem shK4 (D : Int) (c : Kall) : (shK D c).alight = c.alight := rfl
theorem dayS_eq {d : Int} (h : dayB d = true) : dayS d = d * 86400 ∧ 0 ≤ dayS d ∧ dayS d ≤ 3155673600 := by
  have hd := (dayB_iff d).1 h
  have : dayS d = d * 86400 := wrap_in (by omega) (by omega)
  rw [this]
  omega
structure Like (δ : Int) (c o : Kall) : Prop where
  stop : c.stop = o.stop
  board : c.board = o.board
  alight : c.alight = o.alight
  arr : c.arr = o.arr + δ
  dep : c.dep = o.dep + δ
  a0 : 0 ≤ c.arr ∧ c.arr ≤ 172800 ∧ 0 ≤ c.dep ∧ c.dep ≤ 172800
  b0 : 0 ≤ o.arr ∧ o.arr ≤ 172800 ∧ 0 ≤ o.dep ∧ o.dep ≤ 172800
theorem fits_ok (x : Trip) (i day k : Int) (cs : List Kall) (hd : dayB day = true) (hl : cs.length = x.calls.length) (h2 : 2 ≤ x.calls.length) (hlen : x.calls.length ≤ 32) (δ : Int) (h : ∀ (j : Nat) c o, cs[j]? = some c → x.calls[j]? = some o → Like δ c o) :
    law25_fits_M [x.pv, (runOf x i day k cs).pv, .int .i64 i, .int .i64 day, .int .i64 k] = some (.bool true) := by
  obtain ⟨hD, hD0, hD1⟩ := dayS_eq hd
  have e0 : (runOf x i day k cs).trip = i := rfl
  have e1 : (runOf x i day k cs).day = day := rfl
  have e2 : (runOf x i day k cs).inst = k := rfl
  have e3 : (runOf x i day k cs).id = x.id := rfl
  have e4 : (runOf x i day k cs).route = x.route := rfl
  have e5 : (runOf x i day k cs).free = x.free := rfl
  have e6 : (runOf x i day k cs).canc = false := rfl
  have e7 : (runOf x i day k cs).calls = cs.map (shK (dayS day)) := rfl
  have hc1 : decide ((cs.length : Int) = (x.calls.length : Int)) = true := by rw [hl]; simp
  simp only [law25_fits_M, law25_fits, tripA, trip0, trip1, trip2, trip3, trip4, runA, run0, run1, run2, run3, run4, run5, run6, run7, e0, e1, e2, e3, e4, e5, e6, e7, asSl, asInt, asStr, asBool, if_true, bind_some', bne_d, beq_d, decide_true, Bool.not_true, cond_false, beq_self_eq_true, List.length_map, hc1, Bool.false_eq_true, if_false]
  have z1 : 0 < cs.length := by omega
  have z2 : 0 < x.calls.length := by omega
  refine loop_until (fun (j : Nat) => ((cs.map (shK (dayS day))).map Kall.pv, (cs.length : Int), (j : Int), x.id, x.route, x.cal, x.free, x.calls.map Kall.pv, i, day, k, x.id, x.route, x.free, false, (cs.map (shK (dayS day))).map Kall.pv, ())) cs.length (fun j hj rec => ?_) (fun rec => ?_) ?_ rfl
  · have h1 : (j : Int) < (cs.length : Int) := by omega
    have hj2 : j < x.calls.length := by omega
    have lk := h j _ _ (List.getElem?_eq_getElem hj) (List.getElem?_eq_getElem hj2)
    have l0 := h 0 _ _ (List.getElem?_eq_getElem z1) (List.getElem?_eq_getElem z2)
    have a1 := lk.a0; have a2 := lk.b0; have a3 := l0.a0; have a4 := l0.b0
    have a5 := lk.arr; have a6 := lk.dep; have a7 := l0.dep
    have w1 : IntKind.i64.wrap (cs[j].arr + dayS day) = cs[j].arr + dayS day := wrap_in (by omega) (by omega)
    have w2 : IntKind.i64.wrap (cs[j].dep + dayS day) = cs[j].dep + dayS day := wrap_in (by omega) (by omega)
    have w3 : IntKind.i64.wrap (cs[0].dep + dayS day) = cs[0].dep + dayS day := wrap_in (by omega) (by omega)
    have d1 : cs[j].arr + dayS day - (cs[0].dep + dayS day) = x.calls[j].arr - x.calls[0].dep := by omega
    have d2 : cs[j].dep + dayS day - (cs[0].dep + dayS day) = x.calls[j].dep - x.calls[0].dep := by omega
    have g0 : idxP ((cs.map (shK (dayS day))).map Kall.pv) 0 = some (shK (dayS day) cs[0]).pv := by
      rw [show (0 : Int) = ((0 : Nat) : Int) from rfl, idxP_nat, List.getElem?_map, List.getElem?_map, List.getElem?_eq_getElem z1]; rfl
    have g1 : idxP (x.calls.map Kall.pv) 0 = some x.calls[0].pv := by
      rw [show (0 : Int) = ((0 : Nat) : Int) from rfl, idxP_nat, List.getElem?_map, List.getElem?_eq_getElem z2]; rfl
    simp only [law25_fits_L1, decide_eq_true_eq, h1, if_true, idxP_nat, g0, g1, List.getElem?_map, List.getElem?_eq_getElem hj, List.getElem?_eq_getElem hj2, Option.map_some, bind_some', kall0, kall1, kall2, kall3, kall4, shK0, shK1, shK2, shK3, shK4, asInt, asBool, lk.stop, lk.board, lk.alight, bne_d, decide_true, Bool.not_true, cond_false, beq_self_eq_true, w1, w2, w3, d1, d2, Bool.false_eq_true, if_false, wrap_nat (show j < 9223372036854775807 by omega)]
  · simp only [law25_fits_L1, decide_eq_true_eq, Int.lt_irrefl, if_false]
  · have : 40 < rounds := by decide
    omega
theorem run_like {T : Timetable} (hV : ValidT T) {i : Nat} {x : Trip} (hx : T.trips[i]? = some x) {day : Int} {r : Run} {k : Nat} (hr : (tripRunsAt T day i)[k]? = some r) :
    ∃ cs δ, r = runOf x i day k cs ∧ cs.length = x.calls.length ∧ ∀ (j : Nat) c o, cs[j]? = some c → x.calls[j]? = some o → Like δ c o := by
  have ht := trip_valid hV hx
  unfold tripRunsAt at hr
  rw [hx] at hr
  simp only at hr
  unfold tripRuns at hr
  split at hr
  · simp at hr
  · split at hr
    · cases k with
      | zero =>
        simp only [List.getElem?_cons_zero, Option.some.injEq] at hr
        refine ⟨x.calls, 0, hr.symm, rfl, fun j c o hc ho => ?_⟩
        rw [hc] at ho
        obtain rfl := Option.some.inj ho
        have hb := ht.call j c hc
        exact ⟨rfl, rfl, rfl, by omega, by omega, by omega, by omega⟩
      | succ k => simp at hr
    · rw [List.getElem?_map] at hr
      obtain ⟨k', hk', rfl⟩ := Option.map_eq_some_iff.1 hr
      have hkl : k < (List.range (instI T.freqs i).length).length := (List.getElem?_eq_some_iff.1 hk').1
      rw [List.length_range] at hkl
      rw [List.getElem?_range hkl] at hk'
      obtain rfl := Option.some.inj hk'
      rw [getD_get _ _ hkl]
      have hs := List.getElem_mem hkl
      have hf := starts_fit hV hx hs
      obtain ⟨s, hse⟩ : ∃ s, (instI T.freqs i)[k] = s := ⟨_, rfl⟩
      rw [hse] at hf hs ⊢
      cases hcl : x.calls with
      | nil => have := ht.two; rw [hcl] at this; simp at this
      | cons c0 l =>
        rw [hcl] at hf
        have hfk : fcallsK (c0 :: l) s = (c0 :: l).map fun k => mvK k c0.dep s := by
          unfold fcallsK
          rw [if_pos hf]
          rfl
        refine ⟨_, s - c0.dep, rfl, by rw [hfk, List.length_map], fun j c o hc ho => ?_⟩
        rw [hfk, List.getElem?_map, ho] at hc
        simp only [Option.map_some, Option.some.injEq] at hc
        subst hc
        have hb := ht.call j o (by rw [hcl]; exact ho)
        have hm := (callsE_iff c0 l s).1 hf j o ho
        exact ⟨rfl, rfl, rfl, by simp only [mvK]; omega, by simp only [mvK]; omega, by simp only [mvK]; omega, by omega⟩
theorem tripRunsAt_len {T : Timetable} {i : Nat} {x : Trip} (hx : T.trips[i]? = some x) (day : Int) : (tripRunsAt T day i).length = if activeB T.cals T.excs x.cal day = true then (if repB T.freqs i = true then (instI T.freqs i).length else 1) else 0 := by
  unfold tripRunsAt
  rw [hx]
  simp only
  unfold tripRuns
  cases activeB T.cals T.excs x.cal day with
  | false => simp
  | true =>
    cases repB T.freqs i with
    | false => simp
    | true => simp
theorem dayRuns_split (T : Timetable) (day : Int) (i : Nat) (hi : i < T.trips.length) : ∃ rest, dayRuns T day = dayRunsK T day i ++ tripRunsAt T day i ++ rest := by
  refine ⟨(List.range' (i + 1) (T.trips.length - (i + 1))).flatMap (tripRunsAt T day), ?_⟩
  rw [← dayRunsK_succ]
  unfold dayRuns dayRunsK
  rw [← List.flatMap_append]
  congr 1
  have := List.range'_append (s := 0) (m := i + 1) (n := T.trips.length - (i + 1)) (step := 1)
  simp only [Nat.one_mul, Nat.zero_add] at this
  rw [List.range_eq_range', List.range_eq_range', this]
  congr 1
  omega
theorem inner_loop {R : Type} (T : Timetable) (hV : ValidT T) (day : Int) (hd : dayB day = true) (hl : (dayRuns T day).length ≤ 1024) (i : Nat) (x : Trip) (hx : T.trips[i]? = some x) (fin : Option PV)
    (body : (Int × List PV × Int × Int × Int × Int × List PV × Int × Int × List PV × List PV × List PV × List PV × List PV × List PV × List PV × List PV × List PV × List PV × Int × Int × Int × PV × PV × PV × PV × PV × Unit) → (Int × List PV × Int × Int × Int × Int × List PV × Int × Int × List PV × List PV × List PV × List PV × List PV × List PV × List PV × List PV × List PV × List PV × Int × Int × Int × PV × PV × PV × PV × PV × Unit → Option PV) → Option PV)
    (hend : ∀ rec, body (day, (dayRuns T day).map Run.pv, ((dayRunsK T day i).length : Int), (i : Int), ((tripRunsAt T day i).length : Int), ((tripRunsAt T day i).length : Int), T.trips.map Trip.pv, (T.trips.length : Int), (i : Int), tlT T (cell x.pv 0, cell x.pv 1, cell x.pv 2, cell x.pv 3, cell x.pv 4, ())) rec = fin)
    (hbody : ∀ (k : Nat) (r : Run) rec, (tripRunsAt T day i)[k]? = some r → idxP ((dayRuns T day).map Run.pv) (IntKind.i64.wrap (((dayRunsK T day i).length : Int) + (k : Int))) = some r.pv → law25_fits_M [x.pv, r.pv, .int .i64 i, .int .i64 day, .int .i64 k] = some (.bool true) → IntKind.i64.wrap ((k : Int) + 1) = ((k + 1 : Nat) : Int) → (k : Int) < ((tripRunsAt T day i).length : Int) →
      body (day, (dayRuns T day).map Run.pv, ((dayRunsK T day i).length : Int), (i : Int), ((tripRunsAt T day i).length : Int), (k : Int), T.trips.map Trip.pv, (T.trips.length : Int), (i : Int), tlT T (cell x.pv 0, cell x.pv 1, cell x.pv 2, cell x.pv 3, cell x.pv 4, ())) rec = rec (day, (dayRuns T day).map Run.pv, ((dayRunsK T day i).length : Int), (i : Int), ((tripRunsAt T day i).length : Int), ((k + 1 : Nat) : Int), T.trips.map Trip.pv, (T.trips.length : Int), (i : Int), tlT T (cell x.pv 0, cell x.pv 1, cell x.pv 2, cell x.pv 3, cell x.pv 4, ()))) :
    lpS.run body (day, (dayRuns T day).map Run.pv, ((dayRunsK T day i).length : Int), (i : Int), ((tripRunsAt T day i).length : Int), 0, T.trips.map Trip.pv, (T.trips.length : Int), (i : Int), tlT T (cell x.pv 0, cell x.pv 1, cell x.pv 2, cell x.pv 3, cell x.pv 4, ())) = fin := by
  obtain ⟨rest, hsp⟩ := dayRuns_split T day i (List.getElem?_eq_some_iff.1 hx).1
  have hln := congrArg List.length hsp
  simp only [List.length_append] at hln
  have ht := trip_valid hV hx
  refine loop_until (fun (k : Nat) => (day, (dayRuns T day).map Run.pv, ((dayRunsK T day i).length : Int), (i : Int), ((tripRunsAt T day i).length : Int), (k : Int), T.trips.map Trip.pv, (T.trips.length : Int), (i : Int), tlT T (cell x.pv 0, cell x.pv 1, cell x.pv 2, cell x.pv 3, cell x.pv 4, ()))) (tripRunsAt T day i).length (fun k hk rec => ?_) hend ?_ rfl
  · have hr := List.getElem?_eq_getElem hk
    obtain ⟨cs, δ, he, hcl, hlike⟩ := run_like hV hx hr
    refine hbody k _ rec hr ?_ ?_ (wrap_nat (by omega)) (by omega)
    · rw [wrap_in (by omega) (by omega), show ((dayRunsK T day i).length : Int) + (k : Int) = (((dayRunsK T day i).length + k : Nat) : Int) by omega, idxP_nat, List.getElem?_map, hsp, List.append_assoc, List.getElem?_append_right (by omega), show (dayRunsK T day i).length + k - (dayRunsK T day i).length = k by omega, List.getElem?_append_left hk, hr]
      rfl
    · rw [he]
      exact fits_ok x i day k cs hd hcl ht.two ht.most δ hlike
  · have : 1025 < rounds := by decide
    omega
theorem service_law (T : Timetable) (hok : T.Ok) (day : Int) : law25_RunsService_M [T.pv, .int .i64 day] = some (.bool true) := by
  obtain ⟨c, hb, hf⟩ := light_ok T
  simp only [law25_RunsService_M, law25_RunsService, ttA, tt0, tt1, tt2, tt3, tt4, tt5, tt6, tt7, tt8, tt9, tt10, tt11, tt12, asSl, asInt, if_true, bind_some', ttE, hb, asBool, exampleHolds25]
  cases c with
  | false => rfl
  | true =>
    have hT := hf rfl
    obtain ⟨l, e, h1, _, h3, h4⟩ := ofday_both T hT hok day
    simp only [Bool.not_true, Bool.false_eq_true, if_false, h1, runsPV, asTup, asSl, asInt, if_true, bind_some', List.length_cons, List.length_nil, Nat.reduceAdd, List.getD_cons_zero, List.getD_cons_succ, bne_d]
    by_cases he : e = 0
    · obtain ⟨hV, hd, rfl, hl⟩ := h3 he
      simp only [he, decide_true, Bool.not_true, Bool.false_eq_true, if_false, List.length_map]
      refine loop_until (fun (i : Nat) => (day, (dayRuns T day).map Run.pv, ((dayRunsK T day i).length : Int), T.trips.map Trip.pv, (T.trips.length : Int), (i : Int), tlT T ())) T.trips.length (fun i hi rec => ?_) (fun rec => ?_) ?_ ?_
      · have hx := List.getElem?_eq_getElem hi
        obtain ⟨x, hxx⟩ : ∃ x, T.trips[i] = x := ⟨_, rfl⟩
        rw [hxx] at hx
        have ht := trip_valid hV hx
        have hi40 := hT.trips
        have h1 : (i : Int) < (T.trips.length : Int) := by omega
        obtain ⟨rest, hsp⟩ := dayRuns_split T day i hi
        have hln := congrArg List.length hsp
        simp only [List.length_append] at hln
        have hsub : IntKind.i64.wrap (((dayRuns T day).length : Int) - ((dayRunsK T day i).length : Int)) = ((dayRuns T day).length : Int) - ((dayRunsK T day i).length : Int) := wrap_in (by omega) (by omega)
        have hadd : IntKind.i64.wrap (((dayRunsK T day i).length : Int) + ((tripRunsAt T day i).length : Int)) = ((dayRunsK T day (i + 1)).length : Int) := by
          rw [wrap_in (by omega) (by omega), dayRunsK_succ, List.length_append]; omega
        have hgt : decide (((tripRunsAt T day i).length : Int) > ((dayRuns T day).length : Int) - ((dayRunsK T day i).length : Int)) = false := by simp; omega
        have hfold : (day, (dayRuns T day).map Run.pv, ((dayRunsK T day i).length : Int), T.trips.map Trip.pv, (T.trips.length : Int), (i : Int), tlT T ()) = (day, (dayRuns T day).map Run.pv, ((dayRunsK T day i).length : Int), T.trips.map Trip.pv, (T.trips.length : Int), (i : Int), T.stops.map Stop.pv, T.routes.map Route.pv, T.cals.map Cal.pv, T.excs.map Exc.pv, T.trips.map Trip.pv, T.freqs.map Freq.pv, T.thrs.map Thr.pv, T.guars.map Guar.pv, T.paths.map Path.pv, T.prods.map Prdt.pv, T.disc, T.within, T.cap, ()) := rfl
        have htl := tripRunsAt_len hx day
        have hact := active_prog T.cals hok.cals.1 T.excs hok.excs.1 x.cal day
        have hrep := rep_prog T.freqs hok.freqs.1 (i : Int)
        have hins := inst_prog T.freqs (Nat.le_trans hT.freqs (by decide)) (i : Int)
        rw [hfold]
        simp only [law25_RunsService_L4, decide_eq_true_eq, h1, if_true, idxP_nat, List.getElem?_map, hx, Option.map_some, bind_some', trip2, asInt, hact, asBool]
        cases ha : activeB T.cals T.excs x.cal day with
        | false =>
          rw [ha] at htl
          simp only [Bool.false_eq_true, if_false] at htl ⊢
          have hgt0 : ¬ (0 : Int) > ((dayRuns T day).length : Int) - ((dayRunsK T day i).length : Int) := by omega
          rw [List.length_map, hsub, if_neg hgt0]
          have := inner_loop (R := Unit) T hV day hd hl i x hx (rec (day, (dayRuns T day).map Run.pv, ((dayRunsK T day (i + 1)).length : Int), T.trips.map Trip.pv, (T.trips.length : Int), ((i + 1 : Nat) : Int), tlT T ())) (law25_RunsService_L3 rec) (fun rec' => ?_) (fun k r rec' hk hidx hfit hw hlt => ?_)
          · rw [htl] at this
            exact this
          · simp only [law25_RunsService_L3, tlT, decide_eq_true_eq, Int.lt_irrefl, if_false, hadd, wrap_nat (show i < 9223372036854775807 by omega)]
          · simp only [law25_RunsService_L3, tlT, decide_eq_true_eq, hlt, if_true, hidx, bind_some', runE, tripC, hfit, asBool, Bool.not_true, Bool.false_eq_true, if_false, hw]
        | true =>
          rw [ha] at htl
          simp only [if_true, hrep, bind_some', asBool] at htl ⊢
          cases hr : repB T.freqs i with
          | false =>
            rw [hr] at htl
            simp only [Bool.false_eq_true, if_false] at htl ⊢
            have hgt1 : ¬ (1 : Int) > ((dayRuns T day).length : Int) - ((dayRunsK T day i).length : Int) := by omega
            rw [List.length_map, hsub, if_neg hgt1]
            have := inner_loop (R := Unit) T hV day hd hl i x hx (rec (day, (dayRuns T day).map Run.pv, ((dayRunsK T day (i + 1)).length : Int), T.trips.map Trip.pv, (T.trips.length : Int), ((i + 1 : Nat) : Int), tlT T ())) (law25_RunsService_L2 rec) (fun rec' => ?_) (fun k r rec' hk hidx hfit hw hlt => ?_)
            · rw [htl] at this
              exact this
            · simp only [law25_RunsService_L2, tlT, decide_eq_true_eq, Int.lt_irrefl, if_false, hadd, wrap_nat (show i < 9223372036854775807 by omega)]
            · simp only [law25_RunsService_L2, tlT, decide_eq_true_eq, hlt, if_true, hidx, bind_some', runE, tripC, hfit, asBool, Bool.not_true, Bool.false_eq_true, if_false, hw]
          | true =>
            rw [hr] at htl
            simp only [if_true] at htl ⊢
            have hgt1 : ¬ ((instI T.freqs (i : Int)).length : Int) > ((dayRuns T day).length : Int) - ((dayRunsK T day i).length : Int) := by omega
            simp only [hins, bind_some', asSl, if_true, List.length_map]
            rw [hsub, if_neg hgt1]
            have := inner_loop (R := Unit) T hV day hd hl i x hx (rec (day, (dayRuns T day).map Run.pv, ((dayRunsK T day (i + 1)).length : Int), T.trips.map Trip.pv, (T.trips.length : Int), ((i + 1 : Nat) : Int), tlT T ())) (law25_RunsService_L1 rec) (fun rec' => ?_) (fun k r rec' hk hidx hfit hw hlt => ?_)
            · rw [htl] at this
              exact this
            · simp only [law25_RunsService_L1, tlT, decide_eq_true_eq, Int.lt_irrefl, if_false, hadd, wrap_nat (show i < 9223372036854775807 by omega)]
            · simp only [law25_RunsService_L1, tlT, decide_eq_true_eq, hlt, if_true, hidx, bind_some', runE, tripC, hfit, asBool, Bool.not_true, Bool.false_eq_true, if_false, hw]
      · simp only [law25_RunsService_L4, decide_eq_true_eq, Int.lt_irrefl, if_false, dayRuns_K, List.length_map, beq_self_eq_true, cond_true, exampleHolds25, bind_some', asBool]
      · have := hT.trips
        have : 41 < rounds := by decide
        omega
      · simp [dayRunsK, tlT]
    · simp only [he, decide_false, Bool.not_false, if_true]
end Go.Ab.Tt
