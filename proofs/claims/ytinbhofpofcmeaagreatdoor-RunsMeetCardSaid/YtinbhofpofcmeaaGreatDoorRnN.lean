/- Runs that are known; the map of runs by their keys. -/
import Derived.Test.YtinbhofpofcmeaaGreatDoorRnV
import Derived.Test.YtinbhofpofcmeaaGreatDoorRnX
namespace Go.Ab.Tt
set_option maxRecDepth 100000
set_option linter.unusedVariables false
set_option linter.unusedSimpArgs false
theorem scalls_prog (a b : List Kall) (ha : a.length ≤ maxLen) : call_Equal_M [.rs 5 (a.map Kall.pv), .rs 5 (b.map Kall.pv)] = some (.bool (decide (a = b))) := by
  have hm := maxLen_lt
  simp only [call_Equal_M, call_Equal, asSl, if_true, bind_some', List.length_map, bne_d]
  by_cases hl : a.length = b.length
  · rw [if_neg (by simp [hl])]
    refine (dup_scan (fun k => (b.map Kall.pv, a.map Kall.pv, (a.length : Int), (k : Int), ())) a.length (fun k => !decide (a[k]? = b[k]?)) (no := some (.bool false)) (fin := some (.bool true)) (fun k hk rec => ?_) (fun rec => ?_) ?_ rfl).trans (same_lists hl)
    · have h1 : (k : Int) < (a.length : Int) := by omega
      have hkb : k < b.length := by omega
      simp only [call_Equal_L1, decide_eq_true_eq, h1, if_true, idxP_nat, List.getElem?_map, List.getElem?_eq_getElem hk, List.getElem?_eq_getElem hkb, Option.map_some, bind_some', wrap_nat (show k < 9223372036854775807 by omega), Option.some.injEq]
      rw [if_pos ⟨rfl, rfl⟩, kall_eqb]
    · simp only [call_Equal_L1, decide_eq_true_eq, Int.lt_irrefl, if_false]
    · have := rounds_gt; omega
  · rw [if_pos (by simp; omega)]
    have : ¬ a = b := fun e => hl (by rw [e])
    simp [this]
theorem srun_prog (x y : Run) (hx : x.calls.length ≤ maxLen) : runs_same_M [x.pv, y.pv] = some (.bool (decide (x = y))) := by
  simp only [runs_same_M, runs_same, runA, run0, run1, run2, run3, run4, run5, run6, run7, asInt, asStr, asBool, asSl, if_true, bind_some', scalls_prog x.calls y.calls hx, bif_and, beq_d]
  rw [run_dec]
/-! ### known runs -/
def knownB (T : Timetable) (r : Run) : Bool := dayB r.day && decide (r ∈ dayRuns T r.day)
theorem insts_op (x : Trip) (hxok : x.Ok) (h40 : x.calls.length ≤ 40) (i day : Int) (r : Run) (s : List Int) (hs : ∀ t ∈ s, 0 ≤ t ∧ t ≤ 172800) (hsl : s.length ≤ 172800000) :
    lpS.run runs_operates_L1 (day, s.map iv, (s.length : Int), 0, r.trip, r.day, r.inst, r.id, r.route, r.free, r.canc, r.calls.map Kall.pv, false, cell x.pv 0, cell x.pv 1, cell x.pv 2, cell x.pv 3, cell x.pv 4, i, day, 0, x.id, x.route, x.free, false, [], ()) =
      some (.bool (decide (r ∈ (List.range s.length).map fun (k : Nat) => runOf x i day k (fcallsK x.calls (s.getD k 0))))) := by
  refine (dup_scan (fun k => (day, s.map iv, (s.length : Int), (k : Int), r.trip, r.day, r.inst, r.id, r.route, r.free, r.canc, r.calls.map Kall.pv, false, cell x.pv 0, cell x.pv 1, cell x.pv 2, cell x.pv 3, cell x.pv 4, i, day, lastI k, x.id, x.route, x.free, false, lastC x day s k, ())) s.length (fun k => decide (runOf x i day k (fcallsK x.calls (s.getD k 0)) = r)) (no := some (.bool true)) (fin := some (.bool false)) (fun k hk rec => ?_) (fun rec => ?_) ?_ rfl).trans ?_
  · have h1 : (k : Int) < (s.length : Int) := by omega
    have ci : ∀ n : Int, cell (iv n) 0 = .int .i64 n := fun _ => rfl
    have hr := hs s[k] (List.getElem_mem hk)
    have hcl := fcallsK_len x.calls s[k]
    have hgd : s.getD k 0 = s[k] := getD_get s k hk
    have hi64 : I64 s[k] := (i64_iff _).2 (by omega)
    have hlC : lastC x day s (k + 1) = ((fcallsK x.calls s[k]).map (shK (dayS day))).map Kall.pv := by simp only [lastC, hgd]
    have hfc := fcalls_eq x hxok s[k] hi64 h40
    rw [← tripC x] at hfc
    have hsh := shift_prog (fcallsK x.calls s[k]) (dayS day) (by omega)
    have hsm := srun_prog (runOf x i day k (fcallsK x.calls s[k])) r (Nat.le_trans (show _ ≤ 40 by simp only [runOf, List.length_map]; omega) (by decide))
    rw [show r.pv = .agg [.int .i64 r.trip, .int .i64 r.day, .int .i64 r.inst, .str r.id, .int .i64 r.route, .bool r.free, .bool r.canc, .rs 5 (r.calls.map Kall.pv)] from rfl, show (runOf x i day k (fcallsK x.calls s[k])).pv = .agg [.int .i64 i, .int .i64 day, .int .i64 k, .str x.id, .int .i64 x.route, .bool x.free, .bool false, .rs 5 (((fcallsK x.calls s[k]).map (shK (dayS day))).map Kall.pv)] from rfl] at hsm
    rw [hlC, hgd]
    unfold dayS at hsh hsm
    simp only [runs_operates_L1, decide_eq_true_eq, h1, if_true, idxP_nat, ivs_get, List.getElem?_eq_getElem hk, Option.map_some, bind_some', ci, asInt, hfc, asTup, asSl, List.length_cons, List.length_nil, Nat.reduceAdd, List.getD_cons_zero, List.getD_cons_succ, hsh, hsm, asBool, Bool.not_not, wrap_nat (show k < 9223372036854775807 by omega)]
    by_cases he : runOf x i day k (fcallsK x.calls s[k]) = r
    · rw [if_pos he, he]; simp
    · rw [if_neg he]; simp only [he, decide_false]; rfl
  · simp only [runs_operates_L1, decide_eq_true_eq, Int.lt_irrefl, if_false]
  · have : 172800001 < rounds := by decide
    omega
  · have e : (List.range s.length).any (fun k => decide (runOf x i day k (fcallsK x.calls (s.getD k 0)) = r)) = decide (r ∈ (List.range s.length).map fun (k : Nat) => runOf x i day k (fcallsK x.calls (s.getD k 0))) := by
      rw [Bool.eq_iff_iff, List.any_eq_true, decide_eq_true_eq, List.mem_map]
      simp only [decide_eq_true_eq]
    rw [e]
    cases decide (r ∈ (List.range s.length).map fun (k : Nat) => runOf x i day k (fcallsK x.calls (s.getD k 0))) <;> rfl
theorem operates_prog (T : Timetable) (hT : FewP T) (hok : T.Ok) (r : Run) : runs_operates_M [T.pv, r.pv] = some (.bool (knownB T r)) := by
  have hkn : knownB T r = (dayB r.day && decide (r ∈ dayRuns T r.day)) := rfl
  simp only [runs_operates_M, runs_operates, ttA, tt0, tt1, tt2, tt3, tt4, tt5, tt6, tt7, tt8, tt9, tt10, tt11, tt12, runA, run0, run1, run2, run3, run4, run5, run6, run7, asSl, asInt, asStr, asBool, if_true, bind_some', List.length_map, bif_or', dvalid_prog]
  rw [hkn]
  by_cases hr : (decide (r.trip < 0) || decide (r.trip ≥ (T.trips.length : Int))) = true
  · have hno : ¬ r ∈ dayRuns T r.day := fun hm => by
      obtain ⟨i, x, hx, hi, _⟩ := mem_day.1 hm
      have := (List.getElem?_eq_some_iff.1 hx).1
      simp only [Bool.or_eq_true, decide_eq_true_eq] at hr
      omega
    rw [decide_eq_false hno, Bool.and_false]
    simp only [hr, Bool.true_or, if_true]
  · simp only [Bool.not_eq_true] at hr
    simp only [hr, Bool.false_or]
    cases hd : dayB r.day with
    | false => rfl
    | true =>
      simp only [Bool.or_eq_false_iff, decide_eq_false_iff_not] at hr
      obtain ⟨i, hi⟩ : ∃ i : Nat, r.trip = i := ⟨r.trip.toNat, by omega⟩
      have hil : i < T.trips.length := by omega
      obtain ⟨x, hxx⟩ : ∃ x, T.trips[i] = x := ⟨_, rfl⟩
      have hx : T.trips[i]? = some x := by rw [List.getElem?_eq_getElem hil, hxx]
      have hxm : x ∈ T.trips := List.mem_of_getElem? hx
      have hmem : (r ∈ dayRuns T r.day) ↔ r ∈ tripRuns T i x r.day := by
        rw [mem_day]
        constructor
        · rintro ⟨j, y, hy, hj, hm⟩
          have : i = j := by omega
          subst this
          rw [hx] at hy
          cases hy
          exact hm
        · exact fun hm => ⟨i, x, hx, hi, hm⟩
      have hact := active_prog T.cals hok.cals.1 T.excs hok.excs.1 x.cal r.day
      have hrep := rep_prog T.freqs hok.freqs.1 (i : Int)
      have hins := inst_prog T.freqs (Nat.le_trans hT.freqs (by decide)) (i : Int)
      simp only [Bool.not_true, bind_some', cond_false, Bool.false_eq_true, if_false, hi, idxP_nat, List.getElem?_map, hx, Option.map_some, trip0, trip1, trip2, trip3, trip4, asInt, asStr, asBool, asSl, if_true, hact, hrep, hins, Bool.true_and]
      cases ha : activeB T.cals T.excs x.cal r.day with
      | false =>
        have ht : tripRuns T i x r.day = [] := by unfold tripRuns; rw [if_pos ha]
        have hm' : decide (r ∈ dayRuns T r.day) = false := decide_eq_false (by rw [hmem, ht]; simp)
        rw [hm']; rfl
      | true =>
        simp only [Bool.not_true, Bool.false_eq_true, if_false]
        cases hrp : repB T.freqs i with
        | false =>
          have ht : tripRuns T i x r.day = [runOf x i r.day 0 x.calls] := by unfold tripRuns; rw [if_neg (by simp [ha]), if_pos hrp]
          have hm' : decide (r ∈ dayRuns T r.day) = decide (runOf x i r.day 0 x.calls = r) := decide_eq_decide.2 (by rw [hmem, ht, List.mem_singleton]; exact eq_comm)
          rw [hm']
          have hsh := shift_prog x.calls (dayS r.day) (Nat.le_trans (hT.small x hxm) (by decide))
          have hsm := srun_prog (runOf x i r.day 0 x.calls) r (Nat.le_trans (show _ ≤ 40 by simp only [runOf, List.length_map]; exact hT.small x hxm) (by decide))
          rw [show r.pv = .agg [.int .i64 r.trip, .int .i64 r.day, .int .i64 r.inst, .str r.id, .int .i64 r.route, .bool r.free, .bool r.canc, .rs 5 (r.calls.map Kall.pv)] from rfl, show (runOf x i r.day 0 x.calls).pv = .agg [.int .i64 i, .int .i64 r.day, .int .i64 0, .str x.id, .int .i64 x.route, .bool x.free, .bool false, .rs 5 ((x.calls.map (shK (dayS r.day))).map Kall.pv)] from rfl, hi] at hsm
          unfold dayS at hsh hsm
          simp only [Bool.not_false, if_true, hsh, bind_some', asSl, hsm, asBool]
        | true =>
          have ht : tripRuns T i x r.day = (List.range (instI T.freqs i).length).map fun (k : Nat) => runOf x i r.day k (fcallsK x.calls ((instI T.freqs i).getD k 0)) := by unfold tripRuns; rw [if_neg (by simp [ha]), if_neg (by simp [hrp])]
          have hm' : decide (r ∈ dayRuns T r.day) = decide (r ∈ (List.range (instI T.freqs i).length).map fun (k : Nat) => runOf x i r.day k (fcallsK x.calls ((instI T.freqs i).getD k 0))) := decide_eq_decide.2 (by rw [hmem, ht])
          rw [hm']
          simp only [Bool.not_true, Bool.false_eq_true, if_false]
          have := insts_op x (hok.trips.2 x hxm) (hT.small x hxm) i r.day r (instI T.freqs i) (fun t ht => instI_range _ _ _ ht) (instI_len _ (Nat.le_trans hT.freqs (by decide)) _)
          rw [hi] at this
          simp only [List.length_map]
          exact this

/-! ### the map -/
def k3 (k : Int × Int × Int) : PV := .agg [.int .i64 k.1, .int .i64 k.2.1, .int .i64 k.2.2]
theorem k3_key (a b : Int × Int × Int) : peqL (k3 a).cells (k3 b).cells = decide (a = b) := by
  obtain ⟨a1, a2, a3⟩ := a
  obtain ⟨b1, b2, b3⟩ := b
  rw [Bool.eq_iff_iff]; simp [k3, PV.cells, peqL, peq]
def kat (l : List Run) (k : Int × Int × Int) (i : Nat) : Bool := match l[i]? with | some r => decide (r.key = k) | none => false
/-- the first index with a key -/
def findK (l : List Run) (k : Int × Int × Int) (n : Nat) : Option Nat := (List.range n).find? (kat l k)
def kmap (l : List Run) (n : Nat) : List (PV × PV) := (List.range n).filterMap fun (i : Nat) => (l[i]?).map fun (r : Run) => (k3 r.key, PV.int .i64 (i : Int))
theorem kmap_succ (l : List Run) (n : Nat) (h : n < l.length) : kmap l (n + 1) = kmap l n ++ [(k3 l[n].key, .int .i64 (n : Int))] := by
  unfold kmap
  rw [List.range_succ, List.filterMap_append]
  simp [List.getElem?_eq_getElem h]
theorem findK_succ (l : List Run) (k) (n : Nat) : findK l k (n + 1) = (findK l k n).or (if kat l k n = true then some n else none) := by
  unfold findK
  rw [List.range_succ, List.find?_append, List.find?_cons, List.find?_nil]
  congr 1
  cases kat l k n <;> rfl
theorem mhas_app (k : PV) (a : List (PV × PV)) (b : List (PV × PV)) : mhas k (a ++ b) = (mhas k a || mhas k b) := by
  induction a with
  | nil => rfl
  | cons x a ih => obtain ⟨u, v⟩ := x; simp only [List.cons_append, mhas, ih, Bool.or_assoc]
theorem mlook_app (k z : PV) (a : List (PV × PV)) (b : List (PV × PV)) : mlook k z (a ++ b) = if mhas k a = true then mlook k z a else mlook k z b := by
  induction a with
  | nil => rfl
  | cons x a ih =>
    obtain ⟨u, v⟩ := x
    simp only [List.cons_append, mlook, mhas, ih]
    by_cases h : peqL k.cells u.cells = true
    · simp [h]
    · simp [h]
theorem mput_app (k v : PV) (a : List (PV × PV)) (h : mhas k a = false) : mput k v a = a ++ [(k, v)] := by
  induction a with
  | nil => rfl
  | cons x a ih =>
    obtain ⟨u, w⟩ := x
    simp only [mhas, Bool.or_eq_false_iff] at h
    simp only [mput, h.1, Bool.false_eq_true, if_false, ih h.2, List.cons_append]
theorem kat_get {l : List Run} {k} {n : Nat} (h : n < l.length) : kat l k n = decide (l[n].key = k) := by unfold kat; rw [List.getElem?_eq_getElem h]
theorem kmap_has (l : List Run) (k) : ∀ n, n ≤ l.length → mhas (k3 k) (kmap l n) = (findK l k n).isSome
  | 0, _ => rfl
  | n + 1, h => by
    rw [kmap_succ l n h, mhas_app, kmap_has l k n (by omega), findK_succ, kat_get h]
    simp only [mhas, k3_key, Bool.or_false]
    have hd : decide (k = l[n].key) = decide (l[n].key = k) := decide_eq_decide.2 eq_comm
    rw [hd]
    cases findK l k n <;> by_cases e : l[n].key = k <;> simp [e]
theorem kmap_look (l : List Run) (k) (z : PV) : ∀ n, n ≤ l.length → mlook (k3 k) z (kmap l n) = match findK l k n with | some i => .int .i64 (i : Int) | none => z
  | 0, _ => rfl
  | n + 1, h => by
    rw [kmap_succ l n h, mlook_app, kmap_has l k n (by omega), kmap_look l k z n (by omega), findK_succ, kat_get h]
    simp only [mlook, k3_key]
    have hd : decide (k = l[n].key) = decide (l[n].key = k) := decide_eq_decide.2 eq_comm
    rw [hd]
    cases findK l k n <;> by_cases e : l[n].key = k <;> simp [e]
theorem zip_fs (m : List (PV × PV)) : (m.map fun x => x.fst).zip (m.map fun x => x.snd) = m := by
  induction m with
  | nil => rfl
  | cons x m ih => simp only [List.map_cons, List.zip_cons_cons, ih]
/-- what is wrong with the run at an index -/
def badR (T : Timetable) (l : List Run) (i : Nat) : Option Int := match l[i]? with
  | some r => if knownB T r = false then some 9 else if (findK l r.key i).isSome = true then some 6 else none
  | none => none
def idxR (T : Timetable) (l : List Run) : Option Int := (List.range l.length).findSome? (badR T l)
def mpv (l : List Run) : PV := .rm 154 ((kmap l l.length).map fun x => x.fst) ((kmap l l.length).map fun x => x.snd)
theorem index_prog (T : Timetable) (hT : FewP T) (hok : T.Ok) (l : List Run) (hl : l.length ≤ maxLen) : runs_index_M [T.pv, .rs 8 (l.map Run.pv)] = some (match idxR T l with | some e => .tup [.nilm, .int .i64 e] | none => .tup [mpv l, .int .i64 0]) := by
  have hm := maxLen_lt
  simp only [runs_index_M, runs_index, ttA, tt0, tt1, tt2, tt3, tt4, tt5, tt6, tt7, tt8, tt9, tt10, tt11, tt12, asSl, asInt, if_true, bind_some', List.length_map]
  refine (loop_scan' (fun k => (l.map Run.pv, (l.length : Int), (k : Int), tlT T (kmap l k, ()))) l.length (fun k => (badR T l k).map fun e => some (.tup [.nilm, .int .i64 e])) (fin := some (.tup [mpv l, .int .i64 0])) (fun k hk rec => ?_) (fun rec => ?_) ?_ ?_).trans ?_
  · have h1 : (k : Int) < (l.length : Int) := by omega
    have ho : runs_operates_M [T.pv, PV.agg [.int .i64 l[k].trip, .int .i64 l[k].day, .int .i64 l[k].inst, cell l[k].pv 3, cell l[k].pv 4, cell l[k].pv 5, cell l[k].pv 6, cell l[k].pv 7]] = _ := operates_prog T hT hok l[k]
    have hb : badR T l k = if knownB T l[k] = false then some 9 else if (findK l l[k].key k).isSome = true then some 6 else none := by unfold badR; rw [List.getElem?_eq_getElem hk]
    have hkey : ∀ r : Run, PV.agg [.int .i64 r.trip, .int .i64 r.day, .int .i64 r.inst] = k3 r.key := fun _ => rfl
    have hlook : (asInt .i64 (match findK l l[k].key k with | some i => .int .i64 (i : Int) | none => PV.int .i64 0)) = some (match findK l l[k].key k with | some i => (i : Int) | none => 0) := by cases findK l l[k].key k <;> rfl
    simp only [tlT]
    simp only [runs_index_L1, decide_eq_true_eq, h1, if_true, idxP_nat, List.getElem?_map, List.getElem?_eq_getElem hk, Option.map_some, bind_some', ttE, runE, ho, asBool, run0, run1, run2, asInt, hkey, kmap_look l _ _ k (Nat.le_of_lt hk), kmap_has l _ k (Nat.le_of_lt hk), wrap_nat (show k < 9223372036854775807 by omega)]
    rw [hb]
    cases knownB T l[k] with
    | false => rfl
    | true =>
      simp only [Bool.not_true, Bool.false_eq_true, if_false, Bool.true_eq_false]
      cases hf : findK l l[k].key k with
      | some i => rfl
      | none =>
        have hno : mhas (k3 l[k].key) (kmap l k) = false := by rw [kmap_has l _ k (Nat.le_of_lt hk), hf]; rfl
        rw [mput_app _ _ _ hno, ← kmap_succ l k hk]
        rfl
  · simp only [runs_index_L1, tlT, decide_eq_true_eq, Int.lt_irrefl, if_false]
    rfl
  · have := rounds_gt; omega
  · rfl
  · unfold idxR
    have : ∀ L : List Nat, (L.findSome? fun k => (badR T l k).map fun e => some (PV.tup [.nilm, .int .i64 e])) = (L.findSome? (badR T l)).map fun e => some (PV.tup [.nilm, .int .i64 e]) := fun L => by
      induction L with
      | nil => rfl
      | cons a L ih => simp only [List.findSome?_cons]; cases badR T l a <;> simp [ih]
    rw [this]
    cases (List.range l.length).findSome? (badR T l) <;> rfl
end Go.Ab.Tt
