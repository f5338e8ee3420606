/- Through services, guaranteed changes, whole timetables: both checks. -/
import Derived.Test.YtinbhofpofcmeaaGreatDoorTtChk6
import Derived.Test.YtinbhofpofcmeaaGreatDoorTtChk5
import Derived.Test.YtinbhofpofcmeaaGreatDoorTtChk2
import Derived.Test.YtinbhofpofcmeaaGreatDoorTtChk3
set_option maxRecDepth 100000
set_option linter.unusedVariables false
namespace Go.Ab.Tt

theorem thr0 (x : Thr) : cell x.pv 0 = .int .i64 x.a := rfl
theorem thr1 (x : Thr) : cell x.pv 1 = .int .i64 x.b := rfl
theorem int0 (n : Int) : cell (.int .i64 n) 0 = .int .i64 n := rfl
def iv (n : Int) : PV := .int .i64 n
def nextI (l : List Thr) (t : Int) : Option Int := (l.find? fun x => decide (x.a = t)).map Thr.b
def nextPV (o : Option Int) : PV := match o with | some b => .tup [.int .i64 b, .bool true] | none => .tup [.int .i64 0, .bool false]
theorem find_scan {A B : Type} (p : A → Bool) (g : A → B) (l : List A) : (List.range l.length).findSome? (fun k => (l[k]?).bind fun x => if p x = true then some (g x) else none) = (l.find? p).map g := by
  rw [range_find]
  induction l with
  | nil => rfl
  | cons x l ih =>
    simp only [List.findSome?_cons, List.find?_cons]
    by_cases h : p x = true
    · simp [h]
    · simp [h, ih]
theorem next_prog (l : List Thr) (hl : l.length ≤ maxLen) (t : Int) : through_Next_M [.rs 2 (l.map Thr.pv), .int .i64 t] = some (nextPV (nextI l t)) := by
  have hm := maxLen_lt
  simp only [through_Next_M, through_Next, asSl, asInt, if_true, bind_some', List.length_map]
  refine (loop_scan' (fun k => (t, l.map Thr.pv, (l.length : Int), (k : Int), ())) l.length (fun k => (l[k]?).bind fun x => if decide (x.a = t) = true then some (some (nextPV (some x.b))) else none) (fin := some (nextPV none)) (fun k hk rec => ?_) (fun rec => ?_) ?_ rfl).trans ?_
  · have h1 : (k : Int) < (l.length : Int) := by omega
    simp only [through_Next_L1, decide_eq_true_eq, h1, if_true, idxP_nat, List.getElem?_map, List.getElem?_eq_getElem hk, Option.map_some, bind_some', Option.bind_some, thr0, thr1, asInt, wrap_nat (show k < 9223372036854775807 by omega), beq_d]
    by_cases he : l[k].a = t
    · simp only [he, if_true]; rfl
    · simp only [he, if_false]; rfl
  · simp only [through_Next_L1, decide_eq_true_eq, Int.lt_irrefl, if_false]; rfl
  · have := rounds_gt; omega
  · rw [find_scan (fun x : Thr => decide (x.a = t)) (fun x => some (nextPV (some x.b))) l]
    unfold nextI
    cases l.find? fun x => decide (x.a = t) <;> rfl
theorem next_ref (l : List Thr) (hl : l.length ≤ maxLen) (t : Int) : ref19_Next_M [.rs 2 (l.map Thr.pv), .int .i64 t] = some (nextPV (nextI l t)) := by
  have hm := maxLen_lt
  simp only [ref19_Next_M, ref19_Next, asSl, asInt, if_true, bind_some', List.length_map]
  refine (loop_scan' (fun k => (l.map Thr.pv, t, (k : Int), ())) l.length (fun k => (l[k]?).bind fun x => if decide (x.a = t) = true then some (some (nextPV (some x.b))) else none) (fin := some (nextPV none)) (fun k hk rec => ?_) (fun rec => ?_) ?_ rfl).trans ?_
  · have h1 : (k : Int) < (l.length : Int) := by omega
    simp only [ref19_Next_L1, decide_eq_true_eq, List.length_map, h1, if_true, idxP_nat, List.getElem?_map, List.getElem?_eq_getElem hk, Option.map_some, bind_some', Option.bind_some, thr0, thr1, asInt, wrap_nat (show k < 9223372036854775807 by omega), beq_d]
    by_cases he : l[k].a = t
    · simp only [he, if_true]; rfl
    · simp only [he, if_false]; rfl
  · simp only [ref19_Next_L1, decide_eq_true_eq, List.length_map, Int.lt_irrefl, if_false]; rfl
  · have := rounds_gt; omega
  · rw [find_scan (fun x : Thr => decide (x.a = t)) (fun x => some (nextPV (some x.b))) l]
    unfold nextI
    cases l.find? fun x => decide (x.a = t) <;> rfl
theorem has_ref (l : List Int) (hl : l.length ≤ maxLen) (t : Int) : ref19_Has_M [.rs 1 (l.map iv), .int .i64 t] = some (.bool (decide (t ∈ l))) := by
  have hm := maxLen_lt
  simp only [ref19_Has_M, ref19_Has, asSl, asInt, if_true, bind_some', List.length_map]
  refine (dup_scan (fun k => (l.map iv, t, (k : Int), ())) l.length (fun k => decide (l[k]? = some t)) (no := some (.bool true)) (fin := some (.bool false)) (fun k hk rec => ?_) (fun rec => ?_) ?_ rfl).trans ?_
  · have h1 : (k : Int) < (l.length : Int) := by omega
    simp only [ref19_Has_L1, decide_eq_true_eq, List.length_map, h1, if_true, idxP_nat, List.getElem?_map, List.getElem?_eq_getElem hk, Option.map_some, bind_some', iv, int0, asInt, wrap_nat (show k < 9223372036854775807 by omega), beq_d, Option.some.injEq]
  · simp only [ref19_Has_L1, decide_eq_true_eq, List.length_map, Int.lt_irrefl, if_false]
  · have := rounds_gt; omega
  · rw [any_mem l l.length (Nat.le_refl _) t, List.take_length]
    by_cases h : t ∈ l <;> simp [h]
theorem leads_loop (l : List Int) (hl : l.length ≤ maxLen) (t : Int) : lpS.run through_leads_L1 (t, l.map iv, (l.length : Int), 0, ()) = some (.bool (decide (t ∈ l))) := by
  have hm := maxLen_lt
  refine (dup_scan (fun k => (t, l.map iv, (l.length : Int), (k : Int), ())) l.length (fun k => decide (l[k]? = some t)) (no := some (.bool true)) (fin := some (.bool false)) (fun k hk rec => ?_) (fun rec => ?_) ?_ rfl).trans ?_
  · have h1 : (k : Int) < (l.length : Int) := by omega
    simp only [through_leads_L1, decide_eq_true_eq, h1, if_true, idxP_nat, List.getElem?_map, List.getElem?_eq_getElem hk, Option.map_some, bind_some', iv, int0, asInt, wrap_nat (show k < 9223372036854775807 by omega), beq_d, Option.some.injEq]
  · simp only [through_leads_L1, decide_eq_true_eq, Int.lt_irrefl, if_false]
  · have := rounds_gt; omega
  · rw [any_mem l l.length (Nat.le_refl _) t, List.take_length]
    by_cases h : t ∈ l <;> simp [h]

/-! ### chains -/
def grow (l : List Thr) : Nat → List Int → Int → List Int
  | 0, pre, last => pre ++ [last]
  | n + 1, pre, last => match nextI l last with
    | none => pre ++ [last]
    | some m => if m ∈ pre ++ [last] then pre ++ [last] else grow l n (pre ++ [last]) m
theorem grow_len (l : List Thr) : ∀ n pre last, (grow l n pre last).length ≤ pre.length + 1 + n := by
  intro n
  induction n with
  | zero => intro pre last; simp [grow]
  | succ n ih =>
    intro pre last
    unfold grow
    split
    · simp
    · split
      · simp
      · refine Nat.le_trans (ih _ _) ?_
        simp; omega
theorem sub_len : ∀ (a b : List Int), a.Nodup → (∀ x ∈ a, x ∈ b) → a.length ≤ b.length := by
  intro a
  induction a with
  | nil => intro b _ _; simp
  | cons x a ih =>
    intro b hn hs
    rw [List.nodup_cons] at hn
    have hx : x ∈ b := hs x (by simp)
    have := ih (b.erase x) hn.2 fun y hy => by
      have hne : y ≠ x := fun h => hn.1 (by rw [← h]; exact hy)
      rw [List.mem_erase_of_ne hne]
      exact hs y (by simp [hy])
    rw [List.length_erase_of_mem hx] at this
    have hpos : 0 < b.length := List.length_pos_of_mem hx
    simp; omega
theorem next_mem (l : List Thr) (t m : Int) (h : nextI l t = some m) : t ∈ l.map Thr.a := by
  unfold nextI at h
  cases hf : l.find? (fun x => decide (x.a = t)) with
  | none => rw [hf] at h; cases h
  | some x =>
    have h1 := List.mem_of_find?_eq_some hf
    have h2 := List.find?_some hf
    simp only [decide_eq_true_eq] at h2
    exact List.mem_map.2 ⟨x, h1, h2⟩
theorem last_get (pre : List Int) (last : Int) (hl : pre.length < maxLen) : (pre ++ [last]).map iv = pre.map iv ++ [iv last] ∧ inRange (IntKind.i64.wrap ((((pre ++ [last]).map iv).length : Int) - 1)) ((pre ++ [last]).map iv).length ∧ ((pre ++ [last]).map iv)[(IntKind.i64.wrap ((((pre ++ [last]).map iv).length : Int) - 1)).toNat]? = some (iv last) := by
  have hm := maxLen_lt
  have h1 : (((pre ++ [last]).map iv).length : Int) = ((pre.length + 1 : Nat) : Int) := by simp
  have h2 : IntKind.i64.wrap (((pre.length + 1 : Nat) : Int) - 1) = (pre.length : Int) := wrap_pred _ (by omega)
  refine ⟨by simp, ?_, ?_⟩
  · rw [h1, h2]
    have : ((pre ++ [last]).map iv).length = pre.length + 1 := by simp
    rw [this]
    exact inRange_nat _ _ (by omega)
  · rw [h1, h2, Int.toNat_natCast]; simp
theorem int_key' (a b : Int) : peqL (iv a).cells (iv b).cells = decide (a = b) := int_key a b
theorem chain_prog (l : List Thr) (hl : l.length ≤ 1000) (t : Int) : through_Chain_M [.rs 2 (l.map Thr.pv), .int .i64 t] = some (.rs 1 ((grow l l.length [] t).map iv)) := by
  have hml : (2000 : Nat) ≤ maxLen := by decide
  have h0 : mput (PV.int .i64 t) (.bool true) [] = seen iv ([] ++ [t]) := seen_put int_key' t []
  simp only [through_Chain_M, through_Chain, asSl, asInt, if_true, bind_some', h0]
  have key : ∀ (n N : Nat) (pre : List Int) (last : Int), pre.length + n = l.length → n < N → (pre ++ [last]).Nodup → (∀ x ∈ pre, x ∈ l.map Thr.a) →
      loopS (through_Chain_L1 lpS) N (l.map Thr.pv, (pre ++ [last]).map iv, seen iv (pre ++ [last]), ()) = some (.rs 1 ((grow l n pre last).map iv)) := by
    intro n
    induction n with
    | zero =>
      intro N pre last hp hN hnd hsub
      cases N with
      | zero => omega
      | succ N =>
        obtain ⟨g1, g2, g3⟩ := last_get pre last (by omega)
        have hnone : nextI l last = none := by
          cases hx : nextI l last with
          | none => rfl
          | some m =>
            have h1 := next_mem l last m hx
            have := sub_len (pre ++ [last]) (l.map Thr.a) hnd fun y hy => by
              rw [List.mem_append] at hy
              rcases hy with hy | hy
              · exact hsub y hy
              · simp at hy; rw [hy]; exact h1
            simp at this; omega
        simp only [loopS, through_Chain_L1, if_pos g2, g3, bind_some', iv, int0, asInt, if_true, next_prog l (by omega), hnone, nextPV, asTup, List.length_cons, List.length_nil, Nat.reduceAdd, List.getD_cons_zero, List.getD_cons_succ, asBool, Bool.not_false, cond_true]
        rfl
    | succ n ih =>
      intro N pre last hp hN hnd hsub
      cases N with
      | zero => omega
      | succ N =>
        obtain ⟨g1, g2, g3⟩ := last_get pre last (by omega)
        have hb : ∀ X : PV, ((pre ++ [last]).map iv ++ [X]).length * 8 ≤ roomBound ∧ 0 < 8 := fun X => by
          refine ⟨?_, by decide⟩
          simp only [List.length_append, List.length_map, List.length_cons, List.length_nil]
          unfold roomBound; omega
        simp only [loopS, through_Chain_L1, if_pos g2, g3, bind_some', int0, asInt, if_true]
        simp only [iv, int0, asInt, if_true, bind_some', next_prog l (by omega)]
        unfold grow
        cases hx : nextI l last with
        | none => rfl
        | some m =>
          have hlook : mlook (PV.int .i64 m) (.bool false) (seen iv (pre ++ [last])) = .bool (decide (m ∈ pre ++ [last])) := seen_look int_key' m _
          have hput : mput (PV.int .i64 m) (.bool true) (seen iv (pre ++ [last])) = seen iv (pre ++ [last] ++ [m]) := seen_put int_key' m _
          simp only [nextPV, asTup, List.length_cons, List.length_nil, Nat.reduceAdd, if_true, List.getD_cons_zero, List.getD_cons_succ, asBool, asInt, bind_some', Bool.not_true, cond_false]
          simp only [hlook, asBool, bind_some']
          by_cases hmem : m ∈ pre ++ [last]
          · simp only [hmem, decide_true, if_true]
          · simp only [hmem, decide_false, Bool.false_eq_true, if_false]
            rw [if_pos (hb _), hput]
            have hst : (pre ++ [last]).map iv ++ [PV.int .i64 m] = (pre ++ [last] ++ [m]).map iv := by simp [iv]
            rw [hst]
            refine ih N (pre ++ [last]) m (by simp; omega) (by omega) ?_ ?_
            · rw [List.nodup_append]
              refine ⟨hnd, by simp, fun a ha b hb => ?_⟩
              simp at hb
              rw [hb]
              intro h
              exact hmem (h ▸ ha)
            · intro x hx'
              rw [List.mem_append] at hx'
              rcases hx' with h | h
              · exact hsub x h
              · simp at h; rw [h]; exact next_mem l last m hx
  exact key l.length rounds [] t (by simp) (by have : 1001 < rounds := by decide
                                               omega) (by simp) (by simp)
theorem chain_ref (l : List Thr) (hl : l.length ≤ 1000) (t : Int) : ref19_Chain_M [.rs 2 (l.map Thr.pv), .int .i64 t] = some (.rs 1 ((grow l l.length [] t).map iv)) := by
  have hml : (2000 : Nat) ≤ maxLen := by decide
  have hm := maxLen_lt
  simp only [ref19_Chain_M, ref19_Chain, asSl, asInt, if_true, bind_some', List.length_map]
  have key : ∀ (n N : Nat) (pre : List Int) (last : Int), pre.length + n = l.length → n < N →
      loopS (ref19_Chain_L1 lpS) N (l.map Thr.pv, (l.length : Int), (pre.length : Int), (pre ++ [last]).map iv, ()) = some (.rs 1 ((grow l n pre last).map iv)) := by
    intro n
    induction n with
    | zero =>
      intro N pre last hp hN
      cases N with
      | zero => omega
      | succ N =>
        have hlt : ¬ (pre.length : Int) < (l.length : Int) := by omega
        simp only [loopS, ref19_Chain_L1, decide_eq_true_eq, if_neg hlt]
        rfl
    | succ n ih =>
      intro N pre last hp hN
      cases N with
      | zero => omega
      | succ N =>
        obtain ⟨g1, g2, g3⟩ := last_get pre last (by omega)
        have hlt : (pre.length : Int) < (l.length : Int) := by omega
        have hb : ∀ X : PV, ((pre ++ [last]).map iv ++ [X]).length * 8 ≤ roomBound ∧ 0 < 8 := fun X => by
          refine ⟨?_, by decide⟩
          simp only [List.length_append, List.length_map, List.length_cons, List.length_nil]
          unfold roomBound; omega
        simp only [loopS, ref19_Chain_L1, decide_eq_true_eq, if_pos hlt, if_pos g2, g3, bind_some', int0, asInt, if_true]
        simp only [iv, int0, asInt, if_true, bind_some', next_ref l (by omega)]
        unfold grow
        cases hx : nextI l last with
        | none => rfl
        | some m =>
          have hhas := has_ref (pre ++ [last]) (by simp; omega) m
          simp only [nextPV, asTup, List.length_cons, List.length_nil, Nat.reduceAdd, if_true, List.getD_cons_zero, List.getD_cons_succ, asBool, asInt, bind_some', Bool.not_true, cond_false, hhas]
          by_cases hmem : m ∈ pre ++ [last]
          · simp only [hmem, decide_true, if_true]
          · simp only [hmem, decide_false, Bool.false_eq_true, if_false]
            rw [if_pos (hb _)]
            have hst : (pre ++ [last]).map iv ++ [PV.int .i64 m] = (pre ++ [last] ++ [m]).map iv := by simp [iv]
            have hk : IntKind.i64.wrap ((pre.length : Int) + 1) = ((pre ++ [last]).length : Int) := by rw [wrap_nat (by omega)]; simp
            rw [hst, hk]
            exact ih N (pre ++ [last]) m (by simp; omega) (by omega)
  exact key l.length rounds [] t (by simp) (by have : 1001 < rounds := by decide
                                               omega)
theorem leads_prog (l : List Thr) (hl : l.length ≤ 1000) (a b : Int) : through_leads_M [.rs 2 (l.map Thr.pv), .int .i64 a, .int .i64 b] = some (.bool (decide (b ∈ grow l l.length [] a))) := by
  have hml : (2000 : Nat) ≤ maxLen := by decide
  have hg := grow_len l l.length [] a
  simp only [List.length_nil] at hg
  simp only [through_leads_M, through_leads, asSl, asInt, if_true, bind_some', chain_prog l hl, List.length_map]
  exact leads_loop _ (by omega) b
end Go.Ab.Tt
namespace Go.Ab.Tt

def repB (fs : List Freq) (t : Int) : Bool := decide (t ∈ fs.map Freq.trip)
theorem rep_prog (fs : List Freq) (hl : fs.length ≤ maxLen) (t : Int) : frequency_Repeated_M [.rs 4 (fs.map Freq.pv), .int .i64 t] = some (.bool (repB fs t)) := by
  have hm := maxLen_lt
  simp only [frequency_Repeated_M, frequency_Repeated, asSl, asInt, if_true, bind_some', List.length_map]
  refine (dup_scan (fun k => (t, fs.map Freq.pv, (fs.length : Int), (k : Int), ())) fs.length (fun k => decide ((fs.map Freq.trip)[k]? = some t)) (no := some (.bool true)) (fin := some (.bool false)) (fun k hk rec => ?_) (fun rec => ?_) ?_ rfl).trans ?_
  · have h1 : (k : Int) < (fs.length : Int) := by omega
    simp only [frequency_Repeated_L1, decide_eq_true_eq, h1, if_true, idxP_nat, List.getElem?_map, List.getElem?_eq_getElem hk, Option.map_some, bind_some', freq0, asInt, wrap_nat (show k < 9223372036854775807 by omega), beq_d, Option.some.injEq]
  · simp only [frequency_Repeated_L1, decide_eq_true_eq, Int.lt_irrefl, if_false]
  · have := rounds_gt; omega
  · have h := any_mem (fs.map Freq.trip) fs.length (by simp) t
    rw [h, List.take_of_length_le (by simp)]
    unfold repB
    by_cases h : t ∈ fs.map Freq.trip <;> simp only [h, decide_true, decide_false, if_true, Bool.false_eq_true, if_false]
theorem rep_ref (fs : List Freq) (hl : fs.length ≤ maxLen) (t : Int) : ref19_repeated_M [.rs 4 (fs.map Freq.pv), .int .i64 t] = some (.bool (repB fs t)) := by
  have hm := maxLen_lt
  simp only [ref19_repeated_M, ref19_repeated, asSl, asInt, if_true, bind_some', List.length_map]
  refine (dup_scan (fun k => (fs.map Freq.pv, t, (k : Int), ())) fs.length (fun k => decide ((fs.map Freq.trip)[k]? = some t)) (no := some (.bool true)) (fin := some (.bool false)) (fun k hk rec => ?_) (fun rec => ?_) ?_ rfl).trans ?_
  · have h1 : (k : Int) < (fs.length : Int) := by omega
    simp only [ref19_repeated_L1, decide_eq_true_eq, List.length_map, h1, if_true, idxP_nat, List.getElem?_map, List.getElem?_eq_getElem hk, Option.map_some, bind_some', freq0, asInt, wrap_nat (show k < 9223372036854775807 by omega), beq_d, Option.some.injEq]
  · simp only [ref19_repeated_L1, decide_eq_true_eq, List.length_map, Int.lt_irrefl, if_false]
  · have := rounds_gt; omega
  · have h := any_mem (fs.map Freq.trip) fs.length (by simp) t
    rw [h, List.take_of_length_le (by simp)]
    unfold repB
    by_cases h : t ∈ fs.map Freq.trip <;> simp only [h, decide_true, decide_false, if_true, Bool.false_eq_true, if_false]
def inB (n m : Int) : Bool := decide (n ≥ 0) && decide (n < m)
theorem in_ref (n m : Int) : ref19_in_M [.int .i64 n, .int .i64 m] = some (.bool (inB n m)) := by
  simp only [ref19_in_M, ref19_in, asInt, if_true, bind_some', bif_and]; rfl
theorem in_prog (n : Int) (ts : List PV) : through_pair_1_M [.int .i64 n, .rp [.rs 5 ts]] = some (.bool (inB n ts.length)) := by
  simp only [through_pair_1_M, through_pair_1, asInt, asSl, if_true, bind_some', bif_and]; rfl
def pairB (a b : Int) (n : Nat) : Bool := !inB a n || !inB b n || decide (a = b)
def pairRep (fs : List Freq) (a b : Int) : Bool := repB fs a || repB fs b
theorem pair_prog (a b : Int) (trips : List Trip) (fs : List Freq) (hl : fs.length ≤ maxLen) : through_pair_M [.int .i64 a, .int .i64 b, .rs 5 (trips.map Trip.pv), .rs 4 (fs.map Freq.pv)] = some (.tup [.int .i64 (if pairB a b trips.length = true then 9 else 0), .int .i64 (if (!pairB a b trips.length && pairRep fs a b) = true then 17 else 0)]) := by
  simp only [through_pair_M, through_pair, asInt, asSl, asBool, if_true, bind_some', in_prog, rep_prog fs hl, List.length_map, bif_or', beq_d]
  unfold pairB pairRep
  cases (!inB a trips.length || !inB b trips.length || decide (a = b)) with
  | true => rfl
  | false => cases repB fs a || repB fs b <;> rfl
def followsE (a b : Trip) : Int := if (!decide (a.cal = b.cal)) = true then 15 else match a.calls[a.calls.length - 1]?, b.calls[0]? with
  | some p, some q => if (!decide (p.stop = q.stop)) = true then 13 else if q.dep < p.arr then 10 else 0
  | _, _ => 13
theorem last_idx (l : List Kall) (h : 0 < l.length) (hl : l.length ≤ maxLen) : IntKind.i64.wrap ((l.length : Int) - 1) = ((l.length - 1 : Nat) : Int) := by
  have hm := maxLen_lt
  rw [wrap_in (by omega) (by omega)]; omega
theorem idx0 (l : List Kall) (h : 0 < l.length) : idxP (l.map Kall.pv) 0 = some l[0].pv := by
  rw [show (0 : Int) = ((0 : Nat) : Int) from rfl, idxP_nat, List.getElem?_map, List.getElem?_eq_getElem h]; rfl
theorem follows_prog (a b : Trip) (ha : a.Ok) (hb : b.Ok) : through_follows_M [a.pv, b.pv] = some (.int .i64 (followsE a b)) := by
  have hm := maxLen_lt
  have ha1 := ha.calls.1
  simp only [through_follows_M, through_follows, tripA, trip0, trip1, trip2, trip3, trip4, asStr, asSl, asInt, asBool, if_true, bind_some', List.length_map, bif_or', bne_d]
  unfold followsE
  cases decide (a.cal = b.cal) with
  | false => rfl
  | true =>
    simp only [Bool.not_true, Bool.false_eq_true, if_false]
    by_cases h1 : a.calls.length = 0
    · have e1 : a.calls = [] := List.eq_nil_of_length_eq_zero h1
      simp [e1]
    · by_cases h2 : b.calls.length = 0
      · have e2 : b.calls = [] := List.eq_nil_of_length_eq_zero h2
        simp [e2]
      · have n1 : ((a.calls.length : Int) == 0) = false := by rw [beq_eq_false_iff_ne]; omega
        have n2 : ((b.calls.length : Int) == 0) = false := by rw [beq_eq_false_iff_ne]; omega
        have hk : a.calls.length - 1 < a.calls.length := by omega
        have h0 : 0 < b.calls.length := by omega
        rw [n1, n2, last_idx a.calls (by omega) ha1, idx0 b.calls h0]
        simp only [Bool.or_false, Bool.false_eq_true, if_false, idxP_nat, List.getElem?_map, List.getElem?_eq_getElem hk, List.getElem?_eq_getElem h0, Option.map_some, bind_some', kall0, kall1, kall2, asInt, if_true]
        cases decide (a.calls[a.calls.length - 1].stop = b.calls[0].stop) with
        | false => rfl
        | true =>
          simp only [Bool.not_true, Bool.false_eq_true, if_false, decide_eq_true_eq]
          split <;> rfl
def thrErr (l : List Thr) (trips : List Trip) (fs : List Freq) (k : Nat) : Int := match l[k]? with
  | none => 0
  | some x => if pairB x.a x.b trips.length = true then 9 else if pairRep fs x.a x.b = true then 17 else match trips[x.a.toNat]?, trips[x.b.toNat]? with
    | some p, some q => if followsE p q = 0 then (if (decide (x.a ∈ (l.map Thr.a).take k) || decide (x.b ∈ (l.map Thr.b).take k)) = true then 6 else if x.a ∈ grow (l.take k) k [] x.b then 19 else 0) else followsE p q
    | _, _ => 0
def thrRes (l : List Thr) (trips : List Trip) (fs : List Freq) : Int × Int := if l.length > 128 then (0, 5) else scanE (thrErr l trips fs) l.length
theorem pair_in (a b : Int) (trips : List Trip) (h : pairB a b trips.length = false) : ∃ (i j : Nat), a = i ∧ b = j ∧ i < trips.length ∧ j < trips.length := by
  unfold pairB inB at h
  simp only [Bool.or_eq_false_iff, Bool.not_eq_false', Bool.and_eq_true, decide_eq_true_eq] at h
  exact ⟨a.toNat, b.toNat, by omega, by omega, by omega, by omega⟩
theorem thr_prog (l : List Thr) (trips : List Trip) (fs : List Freq) (ht : trips.length ≤ maxLen ∧ ∀ y ∈ trips, y.Ok) (hf : fs.length ≤ maxLen) : through_Check_M [.rs 2 (l.map Thr.pv), .rs 5 (trips.map Trip.pv), .rs 4 (fs.map Freq.pv)] = some (res (thrRes l trips fs).1 (thrRes l trips fs).2) := by
  have hm := maxLen_lt
  simp only [through_Check_M, through_Check, asSl, if_true, bind_some', List.length_map]
  unfold thrRes
  by_cases h64 : l.length > 128
  · rw [if_pos (by simp; omega), if_pos h64]; rfl
  · rw [if_neg (by simp; omega), if_neg h64, ← scanE_eq]
    refine loop_scan' (fun k => (l.map Thr.pv, trips.map Trip.pv, fs.map Freq.pv, l.map Thr.pv, (l.length : Int), (k : Int), seen iv ((l.map Thr.a).take k), seen iv ((l.map Thr.b).take k), ())) l.length _ (fun k hk rec => ?_) (fun rec => ?_) ?_ rfl
    · have h1 : (k : Int) < (l.length : Int) := by omega
      simp only [through_Check_L1, decide_eq_true_eq, h1, if_true, idxP_nat, List.getElem?_map, List.getElem?_eq_getElem hk, Option.map_some, bind_some', thr0, thr1, asInt, pair_prog _ _ trips fs hf, asTup, List.length_cons, List.length_nil, Nat.reduceAdd, List.getD_cons_zero, List.getD_cons_succ, bne_d, wrap_nat (show k < 9223372036854775807 by omega), ids_snoc Thr.a l k hk, ids_snoc Thr.b l k hk, List.length_map]
      unfold thrErr
      rw [List.getElem?_eq_getElem hk]
      simp only
      generalize l[k] = x
      cases hp : pairB x.a x.b trips.length with
      | true => rfl
      | false =>
        cases hr : pairRep fs x.a x.b with
        | true => rfl
        | false =>
          obtain ⟨i, j, hi, hj, hil, hjl⟩ := pair_in x.a x.b trips hp
          have xi : idxP (trips.map Trip.pv) x.a = some trips[i].pv := by rw [hi, idxP_nat, List.getElem?_map, List.getElem?_eq_getElem hil]; rfl
          have xj : idxP (trips.map Trip.pv) x.b = some trips[j].pv := by rw [hj, idxP_nat, List.getElem?_map, List.getElem?_eq_getElem hjl]; rfl
          have ti : trips[x.a.toNat]? = some trips[i] := by rw [hi, Int.toNat_natCast, List.getElem?_eq_getElem hil]
          have tj : trips[x.b.toNat]? = some trips[j] := by rw [hj, Int.toNat_natCast, List.getElem?_eq_getElem hjl]
          have hfo := follows_prog trips[i] trips[j] (ht.2 _ (List.getElem_mem hil)) (ht.2 _ (List.getElem_mem hjl))
          have la : mlook (PV.int .i64 x.a) (.bool false) (seen iv ((l.map Thr.a).take k)) = .bool (decide (x.a ∈ (l.map Thr.a).take k)) := seen_look int_key' x.a _
          have lb : mlook (PV.int .i64 x.b) (.bool false) (seen iv ((l.map Thr.b).take k)) = .bool (decide (x.b ∈ (l.map Thr.b).take k)) := seen_look int_key' x.b _
          have pa : mput (PV.int .i64 x.a) (.bool true) (seen iv ((l.map Thr.a).take k)) = seen iv ((l.map Thr.a).take k ++ [x.a]) := seen_put int_key' x.a _
          have pb : mput (PV.int .i64 x.b) (.bool true) (seen iv ((l.map Thr.b).take k)) = seen iv ((l.map Thr.b).take k ++ [x.b]) := seen_put int_key' x.b _
          have hc : (0 : Int) ≤ 0 ∧ (0 : Int) ≤ (k : Int) ∧ (k : Int) ≤ (l.length : Int) ∧ True ∧ 2 ≠ 0 := ⟨by omega, by omega, by omega, trivial, by decide⟩
          have htk : (l.map Thr.pv).take k = (l.take k).map Thr.pv := by rw [List.map_take]
          have hle := leads_prog (l.take k) (by simp; omega) x.b x.a
          have hlk : (l.take k).length = k := by simp; omega
          rw [hlk] at hle
          simp only [Bool.not_false, Bool.true_and, Bool.false_eq_true, if_false, decide_true, Bool.not_true, xi, xj, ti, tj, bind_some', trip0, trip1, trip2, trip3, trip4, tripE, hfo, asInt, if_true, la, lb, asBool, bif_or', pa, pb, htk, Int.toNat_natCast, Int.toNat_zero, List.drop_zero, hle, if_pos hc]
          by_cases hfe : followsE trips[i] trips[j] = 0
          · simp only [hfe, decide_true, Bool.not_true, Bool.false_eq_true, if_false, if_true]
            cases (decide (x.a ∈ (l.map Thr.a).take k) || decide (x.b ∈ (l.map Thr.b).take k)) with
            | true => rfl
            | false =>
              by_cases hmem : x.a ∈ grow (l.take k) k [] x.b
              · simp only [hmem, decide_true, if_true]; rfl
              · simp only [hmem, decide_false, Bool.false_eq_true, if_false]; rfl
          · simp only [hfe, decide_false, Bool.not_false, if_true, if_false, errAt, orFin]; rfl
    · simp only [through_Check_L1, decide_eq_true_eq, Int.lt_irrefl, if_false]; rfl
    · have : 200 < rounds := by decide
      omega
end Go.Ab.Tt
namespace Go.Ab.Tt

theorem any_or {A : Type} (l : List A) (p q : A → Bool) : (l.any fun x => p x || q x) = (l.any p || l.any q) := by
  induction l with
  | nil => rfl
  | cons a l ih => simp only [List.any_cons, ih]; cases p a <;> cases q a <;> simp
theorem thr_one (l : List Thr) (hl : l.length ≤ 1000) (trips : List Trip) (fs : List Freq) (ht : trips.length ≤ maxLen ∧ ∀ y ∈ trips, y.Ok) (hf : fs.length ≤ maxLen) (k : Nat) (hk : k < l.length) : ref19_one_M [.rs 2 (l.map Thr.pv), .int .i64 k, .rs 5 (trips.map Trip.pv), .rs 4 (fs.map Freq.pv)] = some (.int .i64 (thrErr l trips fs k)) := by
  have hm := maxLen_lt
  simp only [ref19_one_M, ref19_one, asSl, asInt, asBool, if_true, bind_some', idxP_nat, List.getElem?_map, List.getElem?_eq_getElem hk, Option.map_some, thr0, thr1, in_ref, rep_ref fs hf, List.length_map, bif_or', beq_d, bne_d]
  unfold thrErr
  rw [List.getElem?_eq_getElem hk]
  simp only
  generalize hx : l[k] = x
  have hpb : (!inB x.a (trips.length : Int) || !inB x.b (trips.length : Int) || decide (x.a = x.b)) = pairB x.a x.b trips.length := rfl
  have hpr : (repB fs x.a || repB fs x.b) = pairRep fs x.a x.b := rfl
  rw [hpb, hpr]
  cases hp : pairB x.a x.b trips.length with
  | true => rfl
  | false =>
    cases hr : pairRep fs x.a x.b with
    | true => rfl
    | false =>
      obtain ⟨i, j, hi, hj, hil, hjl⟩ := pair_in x.a x.b trips hp
      have xi : idxP (trips.map Trip.pv) x.a = some trips[i].pv := by rw [hi, idxP_nat, List.getElem?_map, List.getElem?_eq_getElem hil]; rfl
      have xj : idxP (trips.map Trip.pv) x.b = some trips[j].pv := by rw [hj, idxP_nat, List.getElem?_map, List.getElem?_eq_getElem hjl]; rfl
      have ti : trips[x.a.toNat]? = some trips[i] := by rw [hi, Int.toNat_natCast, List.getElem?_eq_getElem hil]
      have tj : trips[x.b.toNat]? = some trips[j] := by rw [hj, Int.toNat_natCast, List.getElem?_eq_getElem hjl]
      have hai := (ht.2 _ (List.getElem_mem hil)).calls.1
      simp only [Bool.false_eq_true, if_false, xi, xj, ti, tj, bind_some', trip2, trip4, asInt, asSl, if_true, List.length_map]
      unfold followsE
      cases decide (trips[i].cal = trips[j].cal) with
      | false => rfl
      | true =>
        simp only [Bool.not_true, Bool.false_eq_true, if_false]
        by_cases z1 : trips[i].calls.length = 0
        · have e1 : trips[i].calls = [] := List.eq_nil_of_length_eq_zero z1
          have w : IntKind.i64.wrap (((([] : List Kall).length : Nat) : Int) - 1) = -1 := by decide
          simp only [e1, w]
          rfl
        · rw [last_idx _ (by omega) hai]
          have hneg : decide (((trips[i].calls.length - 1 : Nat) : Int) < 0) = false := by simp
          simp only [hneg, cond_false, bind_some']
          by_cases z2 : trips[j].calls.length = 0
          · have e2 : trips[j].calls = [] := List.eq_nil_of_length_eq_zero z2
            have hk' : trips[i].calls.length - 1 < trips[i].calls.length := by omega
            simp only [e2, List.getElem?_eq_getElem hk']
            rfl
          · have n2 : decide ((trips[j].calls.length : Int) = 0) = false := decide_eq_false (by omega)
            have hk' : trips[i].calls.length - 1 < trips[i].calls.length := by omega
            have h0 : 0 < trips[j].calls.length := by omega
            rw [n2, idx0 _ h0]
            simp only [Bool.false_eq_true, cond_false, if_false, idxP_nat, List.getElem?_map, List.getElem?_eq_getElem hk', List.getElem?_eq_getElem h0, Option.map_some, bind_some', kall0, kall1, kall2, asInt, if_true]
            cases decide (trips[i].calls[trips[i].calls.length - 1].stop = trips[j].calls[0].stop) with
            | false => rfl
            | true =>
              simp only [Bool.not_true, Bool.false_eq_true, if_false, decide_eq_true_eq]
              by_cases hlt : trips[j].calls[0].dep < trips[i].calls[trips[i].calls.length - 1].arr
              · rw [if_pos hlt, if_pos hlt]; rfl
              · rw [if_neg hlt, if_neg hlt]
                simp only [if_true]
                have hc : (0 : Int) ≤ 0 ∧ (0 : Int) ≤ (k : Int) ∧ (k : Int) ≤ ((l.map Thr.pv).length : Int) ∧ True ∧ 2 ≠ 0 := ⟨by omega, by omega, by simp; omega, trivial, by decide⟩
                have htk : (l.map Thr.pv).take k = (l.take k).map Thr.pv := by rw [List.map_take]
                have hlk : (l.take k).length = k := by simp; omega
                have hch := chain_ref (l.take k) (by simp; omega) x.b
                rw [hlk] at hch
                have hg := grow_len (l.take k) k [] x.b
                simp only [List.length_nil] at hg
                have hhas := has_ref (grow (l.take k) k [] x.b) (by have : 2000 ≤ maxLen := by decide
                                                                    omega) x.a
                refine (dup_scan (fun j => (l.map Thr.pv, (k : Int), (j : Int), PV.int .i64 x.a, PV.int .i64 x.b, ())) k (fun j => decide ((l.map Thr.a)[j]? = some x.a) || decide ((l.map Thr.b)[j]? = some x.b)) (no := some (.int .i64 6)) (fin := some (.int .i64 (if x.a ∈ grow (l.take k) k [] x.b then 19 else 0))) (fun j hj rec => ?_) (fun rec => ?_) ?_ rfl).trans ?_
                · have h1 : (j : Int) < (k : Int) := by omega
                  have hjl : j < l.length := by omega
                  simp only [ref19_one_L1, decide_eq_true_eq, h1, if_true, idxP_nat, List.getElem?_map, List.getElem?_eq_getElem hjl, Option.map_some, bind_some', thr0, thr1, asInt, wrap_nat (show j < 9223372036854775807 by omega), beq_d, bif_or', Option.some.injEq]
                · simp only [ref19_one_L1, decide_eq_true_eq, Int.lt_irrefl, if_false, if_pos hc, htk, Int.toNat_natCast, Int.toNat_zero, List.drop_zero, asInt, if_true, bind_some', hch, asSl, hhas, asBool]
                  split <;> rfl
                · have : 1000 < rounds := by decide
                  omega
                · rw [any_or, any_mem _ k (by simp; omega), any_mem _ k (by simp; omega)]
                  split <;> rfl
theorem thr_ref (l : List Thr) (trips : List Trip) (fs : List Freq) (ht : trips.length ≤ maxLen ∧ ∀ y ∈ trips, y.Ok) (hf : fs.length ≤ maxLen) : ref19_Check_M [.rs 2 (l.map Thr.pv), .rs 5 (trips.map Trip.pv), .rs 4 (fs.map Freq.pv)] = some (res (thrRes l trips fs).1 (thrRes l trips fs).2) := by
  have hm := maxLen_lt
  simp only [ref19_Check_M, ref19_Check, asSl, if_true, bind_some', List.length_map]
  unfold thrRes
  by_cases h64 : l.length > 128
  · rw [if_pos (by simp; omega), if_pos h64]; rfl
  · rw [if_neg (by simp; omega), if_neg h64, ← scanE_eq]
    refine loop_scan' (fun k => (l.map Thr.pv, trips.map Trip.pv, fs.map Freq.pv, (k : Int), ())) l.length _ (fun k hk rec => ?_) (fun rec => ?_) ?_ rfl
    · have h1 : (k : Int) < (l.length : Int) := by omega
      simp only [ref19_Check_L1, decide_eq_true_eq, List.length_map, h1, if_true, thr_one l (by omega) trips fs ht hf k hk, bind_some', asInt, wrap_nat (show k < 9223372036854775807 by omega), bne_d]
      by_cases he : thrErr l trips fs k = 0
      · simp [he, errAt, orFin]
      · simp [he, errAt, orFin, res]
    · simp only [ref19_Check_L1, decide_eq_true_eq, List.length_map, Int.lt_irrefl, if_false]; rfl
    · have : 200 < rounds := by decide
      omega
end Go.Ab.Tt
namespace Go.Ab.Tt

def aliP (l : List Kall) (s : Int) (k : Nat) : Bool := decide (0 < k) && (match l[k]? with | some x => decide (x.stop = s) && x.alight | none => false)
def boaP (l : List Kall) (s : Int) (k : Nat) : Bool := decide (k + 1 < l.length) && (match l[k]? with | some x => decide (x.stop = s) && x.board | none => false)
def idxOr (o : Option Nat) : Int := match o with | some k => k | none => -1
theorem idx_some (i : Nat) : decide (idxOr (some i) < 0) = false := by
  refine decide_eq_false ?_
  show ¬ (i : Int) < 0
  omega
theorem ali_prog (l : List Kall) (hl : l.length ≤ maxLen) (s : Int) : through_alighting_M [.rs 5 (l.map Kall.pv), .int .i64 s] = some (.int .i64 (idxOr ((List.range l.length).find? (aliP l s)))) := by
  have hm := maxLen_lt
  simp only [through_alighting_M, through_alighting, asSl, asInt, if_true, bind_some', List.length_map]
  refine (loop_scan' (fun k => (s, l.map Kall.pv, (l.length : Int), (k : Int), ())) l.length (fun k => if aliP l s k = true then some (some (.int .i64 (k : Int))) else none) (fin := some (.int .i64 (-1))) (fun k hk rec => ?_) (fun rec => ?_) ?_ rfl).trans ?_
  · have h1 : (k : Int) < (l.length : Int) := by omega
    have h2 : decide ((k : Int) > 0) = decide (0 < k) := by rw [Bool.eq_iff_iff]; simp
    simp only [through_alighting_L1, decide_eq_true_eq, h1, if_true, idxP_nat, List.getElem?_map, List.getElem?_eq_getElem hk, Option.map_some, bind_some', kall0, kall4, asInt, asBool, wrap_nat (show k < 9223372036854775807 by omega), beq_d, bif_and, aliP, h2]
    cases decide (0 < k) <;> cases decide (l[k].stop = s) <;> cases l[k].alight <;> rfl
  · simp only [through_alighting_L1, decide_eq_true_eq, Int.lt_irrefl, if_false]
  · have := rounds_gt; omega
  · rw [findSome_if]
    cases (List.range l.length).find? (aliP l s) <;> rfl
theorem boa_prog (l : List Kall) (hl : l.length < maxLen) (s : Int) : through_boarding_M [.rs 5 (l.map Kall.pv), .int .i64 s] = some (.int .i64 (idxOr ((List.range l.length).find? (boaP l s)))) := by
  have hm := maxLen_lt
  simp only [through_boarding_M, through_boarding, asSl, asInt, if_true, bind_some', List.length_map]
  refine (loop_scan' (fun k => (l.map Kall.pv, s, l.map Kall.pv, (l.length : Int), (k : Int), ())) l.length (fun k => if boaP l s k = true then some (some (.int .i64 (k : Int))) else none) (fin := some (.int .i64 (-1))) (fun k hk rec => ?_) (fun rec => ?_) ?_ rfl).trans ?_
  · have h1 : (k : Int) < (l.length : Int) := by omega
    have h2 : decide (((k + 1 : Nat) : Int) < (l.length : Int)) = decide (k + 1 < l.length) := by rw [Bool.eq_iff_iff]; simp only [decide_eq_true_eq]; omega
    simp only [through_boarding_L1, decide_eq_true_eq, h1, if_true, idxP_nat, List.getElem?_map, List.getElem?_eq_getElem hk, Option.map_some, bind_some', kall0, kall3, asInt, asBool, wrap_nat (show k < 9223372036854775807 by omega), beq_d, bif_and, boaP, List.length_map, h2]
    cases decide (k + 1 < l.length) <;> cases decide (l[k].stop = s) <;> cases l[k].board <;> rfl
  · simp only [through_boarding_L1, decide_eq_true_eq, Int.lt_irrefl, if_false]
  · have := rounds_gt; omega
  · rw [findSome_if]
    cases (List.range l.length).find? (boaP l s) <;> rfl
def mtB (a b : List Kall) (i k : Nat) : Bool := match a[i]?, b[k]? with | some p, some q => !decide (q.dep < p.arr) | _, _ => false
def mtPV (i k : Nat) (m : Bool) : PV := if m = true then .tup [.int .i64 i, .int .i64 k, .bool true] else .tup [.int .i64 0, .int .i64 0, .bool false]
def t0PV : PV := .tup [.int .i64 0, .int .i64 0, .bool false]
def meetsPV (a b : List Kall) (s : Int) : PV := match (List.range a.length).find? (aliP a s) with
  | none => t0PV
  | some i => match (List.range b.length).find? (boaP b s) with
    | none => t0PV
    | some k => mtPV i k (mtB a b i k)
def meetsB (a b : List Kall) (s : Int) : Bool := match (List.range a.length).find? (aliP a s) with
  | none => false
  | some i => match (List.range b.length).find? (boaP b s) with
    | none => false
    | some k => mtB a b i k
theorem meets_tup (a b : List Kall) (s : Int) : ∃ n m, meetsPV a b s = .tup [.int .i64 n, .int .i64 m, .bool (meetsB a b s)] := by
  unfold meetsPV meetsB
  cases (List.range a.length).find? (aliP a s) with
  | none => exact ⟨0, 0, rfl⟩
  | some i =>
    cases (List.range b.length).find? (boaP b s) with
    | none => exact ⟨0, 0, rfl⟩
    | some k =>
      simp only [mtPV]
      cases mtB a b i k
      · exact ⟨0, 0, rfl⟩
      · exact ⟨i, k, rfl⟩
theorem find_in (p : Nat → Bool) (n i : Nat) (h : (List.range n).find? p = some i) : i < n := by
  have := List.mem_of_find?_eq_some h
  simpa using this
theorem meets_prog (a b : List Kall) (ha : a.length ≤ maxLen) (hb : b.length < maxLen) (s : Int) : through_Meets_M [.rs 5 (a.map Kall.pv), .rs 5 (b.map Kall.pv), .int .i64 s] = some (meetsPV a b s) := by
  simp only [through_Meets_M, through_Meets, asSl, asInt, if_true, bind_some', ali_prog a ha s, boa_prog b hb s, bif_or']
  unfold meetsPV
  cases hi : (List.range a.length).find? (aliP a s) with
  | none => rfl
  | some i =>
    have hil := find_in _ _ _ hi
    cases hk : (List.range b.length).find? (boaP b s) with
    | none =>
      have h1 : decide (idxOr (some i) < 0) = false := idx_some i
      have h2 : decide (idxOr none < 0) = true := by simp [idxOr]
      rw [h1, h2]; rfl
    | some k =>
      have hkl := find_in _ _ _ hk
      have h1 : decide (idxOr (some i) < 0) = false := idx_some i
      have h2 : decide (idxOr (some k) < 0) = false := idx_some k
      rw [h1, h2]
      simp only [idxOr, Bool.or_false, cond_false, idxP_nat, List.getElem?_map, List.getElem?_eq_getElem hil, List.getElem?_eq_getElem hkl, Option.map_some, bind_some', kall1, kall2, asInt, if_true, decide_eq_true_eq, mtPV, mtB]
      by_cases h : b[k].dep < a[i].arr
      · simp only [h, if_true, decide_true, Bool.not_true, Bool.false_eq_true, if_false]
      · simp only [h, if_true, decide_false, Bool.not_false, if_false]
theorem meets_in (a b : List Kall) (hb : b.length < maxLen) (s : Int) (i : Nat) (hi : i < a.length) : lpS.run ref19_Meets_L1 (a.map Kall.pv, b.map Kall.pv, s, (i : Int), 0, ()) = some (match (List.range b.length).find? (boaP b s) with
    | none => t0PV
    | some k => mtPV i k (mtB a b i k)) := by
  have hm := maxLen_lt
  refine (loop_scan' (fun k => (a.map Kall.pv, b.map Kall.pv, s, (i : Int), (k : Int), ())) (b.length - 1) (fun k => if boaP b s k = true then some (some (mtPV i k (mtB a b i k))) else none) (fin := some t0PV) (fun k hk rec => ?_) (fun rec => ?_) ?_ rfl).trans ?_
  · have hkl : k < b.length := by omega
    have h1 : ((k + 1 : Nat) : Int) < (b.length : Int) := by omega
    have h2 : decide (k + 1 < b.length) = true := by rw [decide_eq_true_eq]; omega
    simp only [ref19_Meets_L1, decide_eq_true_eq, wrap_nat (show k < 9223372036854775807 by omega), List.length_map, h1, if_true, idxP_nat, List.getElem?_map, List.getElem?_eq_getElem hkl, List.getElem?_eq_getElem hi, Option.map_some, bind_some', kall0, kall1, kall2, kall3, asInt, asBool, beq_d, bif_and, boaP, h2, mtPV, mtB, Bool.true_and]
    cases (decide (b[k].stop = s) && b[k].board) with
    | false => rfl
    | true =>
      by_cases h : b[k].dep < a[i].arr
      · simp only [h, if_true, decide_true, Bool.not_true, Bool.false_eq_true, if_false]; rfl
      · simp only [h, if_true, decide_false, Bool.not_false, if_false]; rfl
  · have hw : IntKind.i64.wrap (((b.length - 1 : Nat) : Int) + 1) = ((b.length - 1 + 1 : Nat) : Int) := wrap_nat (by omega)
    have h1 : ¬ ((b.length - 1 + 1 : Nat) : Int) < (b.length : Int) := by omega
    simp only [ref19_Meets_L1, decide_eq_true_eq, hw, List.length_map, if_neg h1]; rfl
  · have := rounds_gt; omega
  · rw [findSome_if]
    have hfind : (List.range b.length).find? (boaP b s) = (List.range (b.length - 1)).find? (boaP b s) := by
      cases hbl : b.length with
      | zero => rfl
      | succ n =>
        have hlast : boaP b s n = false := by unfold boaP; rw [hbl]; simp
        rw [List.range_succ, List.find?_append]
        simp only [List.find?_cons, hlast, List.find?_nil, Option.or_none, Nat.add_sub_cancel]
    rw [hfind]
    cases (List.range (b.length - 1)).find? (boaP b s) <;> rfl
theorem meets_ref (a b : List Kall) (ha : a.length < maxLen) (hb : b.length < maxLen) (s : Int) : ref19_Meets_M [.rs 5 (a.map Kall.pv), .rs 5 (b.map Kall.pv), .int .i64 s] = some (meetsPV a b s) := by
  have hm := maxLen_lt
  simp only [ref19_Meets_M, ref19_Meets, asSl, asInt, if_true, bind_some']
  refine (loop_scan' (fun k => (a.map Kall.pv, b.map Kall.pv, s, ((k + 1 : Nat) : Int), ())) (a.length - 1) (fun k => if aliP a s (k + 1) = true then some (some (match (List.range b.length).find? (boaP b s) with | none => t0PV | some j => mtPV (k + 1) j (mtB a b (k + 1) j))) else none) (fin := some t0PV) (fun k hk rec => ?_) (fun rec => ?_) ?_ rfl).trans ?_
  · have hkl : k + 1 < a.length := by omega
    have h1 : ((k + 1 : Nat) : Int) < (a.length : Int) := by omega
    have h2 : decide (0 < k + 1) = true := by simp
    simp only [ref19_Meets_L2, decide_eq_true_eq, List.length_map, h1, if_true, idxP_nat, List.getElem?_map, List.getElem?_eq_getElem hkl, Option.map_some, bind_some', kall0, kall4, asInt, asBool, bne_d, bif_or', aliP, h2, Bool.true_and, wrap_nat (show k + 1 < 9223372036854775807 by omega), meets_in a b hb s (k + 1) hkl]
    cases decide (a[k + 1].stop = s) <;> cases a[k + 1].alight <;> rfl
  · have h1 : ¬ ((a.length - 1 + 1 : Nat) : Int) < (a.length : Int) := by omega
    simp only [ref19_Meets_L2, decide_eq_true_eq, List.length_map, if_neg h1]; rfl
  · have := rounds_gt; omega
  · rw [findSome_if (fun k => aliP a s (k + 1))]
    unfold meetsPV
    cases hal : a.length with
    | zero => rfl
    | succ n =>
      have h0 : aliP a s 0 = false := by unfold aliP; simp
      rw [List.range_succ_eq_map, List.find?_cons, h0, Nat.add_sub_cancel, List.find?_map]
      cases hf : (List.range n).find? (fun k => aliP a s (k + 1)) with
      | none =>
        have : (List.range n).find? (aliP a s ∘ Nat.succ) = none := hf
        rw [this]; rfl
      | some i =>
        have : (List.range n).find? (aliP a s ∘ Nat.succ) = some i := hf
        rw [this]; rfl
end Go.Ab.Tt
namespace Go.Ab.Tt

theorem guar0 (x : Guar) : cell x.pv 0 = .int .i64 x.a := rfl
theorem guar1 (x : Guar) : cell x.pv 1 = .int .i64 x.b := rfl
theorem guar2 (x : Guar) : cell x.pv 2 = .int .i64 x.stop := rfl
theorem guarE (x : Guar) : PV.agg [.int .i64 x.a, .int .i64 x.b, .int .i64 x.stop] = x.pv := rfl
theorem guar_chk (a b c : Int) : chk (Kd.int .i64 :: [].append (Kd.int .i64 :: [].append (Kd.int .i64 :: [].append []))) [.int .i64 a, .int .i64 b, .int .i64 c] = true := rfl
theorem guar_key (x y : Guar) : peqL x.pv.cells y.pv.cells = decide (x = y) := by
  show peqL [.int .i64 x.a, .int .i64 x.b, .int .i64 x.stop] [.int .i64 y.a, .int .i64 y.b, .int .i64 y.stop] = _
  simp only [peqL, peq, Bool.and_true, beq_d]
  rw [Bool.eq_iff_iff]
  simp only [Bool.and_eq_true, decide_eq_true_eq]
  cases x; cases y
  simp
def guarErr (l : List Guar) (trips : List Trip) (fs : List Freq) (stops : Int) (k : Nat) : Int := match l[k]? with
  | none => 0
  | some x => if (pairB x.a x.b trips.length || !inB x.stop stops) = true then 9 else if pairRep fs x.a x.b = true then 17 else match trips[x.a.toNat]?, trips[x.b.toNat]? with
    | some p, some q => if meetsB p.calls q.calls x.stop = false then 19 else if x ∈ l.take k then 6 else 0
    | _, _ => 0
def guarRes (l : List Guar) (trips : List Trip) (fs : List Freq) (stops : Int) : Int × Int := if l.length > 128 then (0, 5) else scanE (guarErr l trips fs stops) l.length
theorem guar_prog (l : List Guar) (trips : List Trip) (fs : List Freq) (stops : Int) (ht : trips.length ≤ maxLen ∧ ∀ y ∈ trips, y.Ok) (h40 : ∀ y ∈ trips, y.calls.length ≤ 40) (hf : fs.length ≤ maxLen) : through_CheckGuarantees_M [.rs 3 (l.map Guar.pv), .rs 5 (trips.map Trip.pv), .rs 4 (fs.map Freq.pv), .int .i64 stops] = some (res (guarRes l trips fs stops).1 (guarRes l trips fs stops).2) := by
  have hm := maxLen_lt
  have hm2 : 1000 ≤ maxLen := by decide
  simp only [through_CheckGuarantees_M, through_CheckGuarantees, asSl, asInt, if_true, bind_some', List.length_map]
  unfold guarRes
  by_cases h64 : l.length > 128
  · rw [if_pos (by simp; omega), if_pos h64]; rfl
  · rw [if_neg (by simp; omega), if_neg h64, ← scanE_eq]
    refine loop_scan' (fun k => (trips.map Trip.pv, fs.map Freq.pv, stops, l.map Guar.pv, (l.length : Int), (k : Int), seen Guar.pv (l.take k), ())) l.length _ (fun k hk rec => ?_) (fun rec => ?_) ?_ rfl
    · have h1 : (k : Int) < (l.length : Int) := by omega
      have hst : l.take (k + 1) = l.take k ++ [l[k]] := (List.take_append_getElem hk).symm
      simp only [through_CheckGuarantees_L1, decide_eq_true_eq, h1, if_true, idxP_nat, List.getElem?_map, List.getElem?_eq_getElem hk, Option.map_some, bind_some', guar0, guar1, guar2, asInt, pair_prog _ _ trips fs hf, asTup, List.length_cons, List.length_nil, Nat.reduceAdd, List.getD_cons_zero, List.getD_cons_succ, bne_d, bif_or', wrap_nat (show k < 9223372036854775807 by omega), hst, List.length_map]
      unfold guarErr
      rw [List.getElem?_eq_getElem hk]
      simp only
      generalize l[k] = x
      have hin : (!inB x.stop stops) = (decide (x.stop < 0) || decide (x.stop ≥ stops)) := by
        unfold inB
        rw [Bool.eq_iff_iff]
        simp only [Bool.not_eq_true', Bool.and_eq_false_iff, decide_eq_false_iff_not, Bool.or_eq_true, decide_eq_true_eq]
        omega
      rw [hin]
      cases hp : pairB x.a x.b trips.length with
      | true => rfl
      | false =>
        simp only [Bool.not_false, Bool.true_and, Bool.false_or, Bool.false_eq_true, if_false, decide_true, Bool.not_true]
        cases (decide (x.stop < 0) || decide (x.stop ≥ stops)) with
        | true => rfl
        | false =>
          cases hr : pairRep fs x.a x.b with
          | true => rfl
          | false =>
            obtain ⟨i, j, hi, hj, hil, hjl⟩ := pair_in x.a x.b trips hp
            have xi : idxP (trips.map Trip.pv) x.a = some trips[i].pv := by rw [hi, idxP_nat, List.getElem?_map, List.getElem?_eq_getElem hil]; rfl
            have xj : idxP (trips.map Trip.pv) x.b = some trips[j].pv := by rw [hj, idxP_nat, List.getElem?_map, List.getElem?_eq_getElem hjl]; rfl
            have ti : trips[x.a.toNat]? = some trips[i] := by rw [hi, Int.toNat_natCast, List.getElem?_eq_getElem hil]
            have tj : trips[x.b.toNat]? = some trips[j] := by rw [hj, Int.toNat_natCast, List.getElem?_eq_getElem hjl]
            have hci := h40 _ (List.getElem_mem hil)
            have hcj := h40 _ (List.getElem_mem hjl)
            have hmt := meets_prog trips[i].calls trips[j].calls (by omega) (by omega) x.stop
            obtain ⟨n1, n2, hmp⟩ := meets_tup trips[i].calls trips[j].calls x.stop
            have hlook : mlook x.pv (.bool false) (seen Guar.pv (l.take k)) = .bool (decide (x ∈ l.take k)) := seen_look guar_key x _
            have hput : mput x.pv (.bool true) (seen Guar.pv (l.take k)) = seen Guar.pv (l.take k ++ [x]) := seen_put guar_key x _
            simp only [Bool.false_eq_true, if_false, decide_true, Bool.not_true, xi, xj, ti, tj, bind_some', trip4, asSl, asInt, asBool, if_true, hmt, hmp, asTup, List.length_cons, List.length_nil, Nat.reduceAdd, List.getD_cons_zero, List.getD_cons_succ, guar_chk, guarE, hlook, hput]
            cases meetsB trips[i].calls trips[j].calls x.stop with
            | false => rfl
            | true =>
              by_cases hmem : x ∈ l.take k
              · simp only [hmem, decide_true, if_true, Bool.not_true, Bool.false_eq_true, Bool.true_eq_false, if_false]; rfl
              · simp only [hmem, decide_false, Bool.not_true, Bool.false_eq_true, Bool.true_eq_false, if_false]; rfl
    · simp only [through_CheckGuarantees_L1, decide_eq_true_eq, Int.lt_irrefl, if_false]; rfl
    · have : 200 < rounds := by decide
      omega
theorem guar_one (l : List Guar) (hl : l.length ≤ 1000) (trips : List Trip) (fs : List Freq) (stops : Int) (h40 : ∀ y ∈ trips, y.calls.length ≤ 40) (hf : fs.length ≤ maxLen) (k : Nat) (hk : k < l.length) : ref19_guarantee_M [.rs 3 (l.map Guar.pv), .int .i64 k, .rs 5 (trips.map Trip.pv), .rs 4 (fs.map Freq.pv), .int .i64 stops] = some (.int .i64 (guarErr l trips fs stops k)) := by
  have hm := maxLen_lt
  have hm2 : 1000 ≤ maxLen := by decide
  simp only [ref19_guarantee_M, ref19_guarantee, asSl, asInt, asBool, if_true, bind_some', idxP_nat, List.getElem?_map, List.getElem?_eq_getElem hk, Option.map_some, guar0, guar1, guar2, in_ref, rep_ref fs hf, List.length_map, bif_or', beq_d, bne_d]
  unfold guarErr
  rw [List.getElem?_eq_getElem hk]
  simp only
  generalize hx : l[k] = x
  have hpb : (!inB x.a (trips.length : Int) || !inB x.b (trips.length : Int) || decide (x.a = x.b)) = pairB x.a x.b trips.length := rfl
  have hpr : (repB fs x.a || repB fs x.b) = pairRep fs x.a x.b := rfl
  rw [hpb, hpr]
  cases hp : pairB x.a x.b trips.length with
  | true => rfl
  | false =>
    cases hs : inB x.stop stops with
    | false => rfl
    | true =>
      cases hr : pairRep fs x.a x.b with
      | true => rfl
      | false =>
        obtain ⟨i, j, hi, hj, hil, hjl⟩ := pair_in x.a x.b trips hp
        have xi : idxP (trips.map Trip.pv) x.a = some trips[i].pv := by rw [hi, idxP_nat, List.getElem?_map, List.getElem?_eq_getElem hil]; rfl
        have xj : idxP (trips.map Trip.pv) x.b = some trips[j].pv := by rw [hj, idxP_nat, List.getElem?_map, List.getElem?_eq_getElem hjl]; rfl
        have ti : trips[x.a.toNat]? = some trips[i] := by rw [hi, Int.toNat_natCast, List.getElem?_eq_getElem hil]
        have tj : trips[x.b.toNat]? = some trips[j] := by rw [hj, Int.toNat_natCast, List.getElem?_eq_getElem hjl]
        have hci := h40 _ (List.getElem_mem hil)
        have hcj := h40 _ (List.getElem_mem hjl)
        have hmt := meets_ref trips[i].calls trips[j].calls (by omega) (by omega) x.stop
        obtain ⟨n1, n2, hmp⟩ := meets_tup trips[i].calls trips[j].calls x.stop
        simp only [Bool.not_true, Bool.or_false, Bool.false_eq_true, if_false, xi, xj, ti, tj, bind_some', trip4, asSl, asInt, asBool, if_true, hmt, hmp, asTup, List.length_cons, List.length_nil, Nat.reduceAdd, List.getD_cons_zero, List.getD_cons_succ]
        cases meetsB trips[i].calls trips[j].calls x.stop with
        | false => rfl
        | true =>
          simp only [Bool.not_true, Bool.false_eq_true, Bool.true_eq_false, if_false]
          refine (dup_scan (fun j => (l.map Guar.pv, (k : Int), (j : Int), PV.int .i64 x.a, PV.int .i64 x.b, PV.int .i64 x.stop, ())) k (fun j => decide (l[j]? = some x)) (no := some (.int .i64 6)) (fin := some (.int .i64 0)) (fun j hj rec => ?_) (fun rec => ?_) ?_ rfl).trans ?_
          · have h1 : (j : Int) < (k : Int) := by omega
            have hjl : j < l.length := by omega
            have hkey : peqL [PV.int .i64 l[j].a, .int .i64 l[j].b, .int .i64 l[j].stop] [.int .i64 x.a, .int .i64 x.b, .int .i64 x.stop] = decide (l[j] = x) := guar_key l[j] x
            simp only [ref19_guarantee_L1, decide_eq_true_eq, h1, if_true, idxP_nat, List.getElem?_map, List.getElem?_eq_getElem hjl, Option.map_some, bind_some', guar0, guar1, guar2, guar_chk, and_self, hkey, wrap_nat (show j < 9223372036854775807 by omega), Option.some.injEq]
          · simp only [ref19_guarantee_L1, decide_eq_true_eq, Int.lt_irrefl, if_false]
          · have : 1000 < rounds := by decide
            omega
          · rw [any_mem l k (by omega)]
            by_cases hmem : x ∈ l.take k
            · simp only [hmem, decide_true, if_true]
            · simp only [hmem, decide_false, Bool.false_eq_true, if_false]
theorem guar_ref (l : List Guar) (trips : List Trip) (fs : List Freq) (stops : Int) (h40 : ∀ y ∈ trips, y.calls.length ≤ 40) (hf : fs.length ≤ maxLen) : ref19_CheckGuarantees_M [.rs 3 (l.map Guar.pv), .rs 5 (trips.map Trip.pv), .rs 4 (fs.map Freq.pv), .int .i64 stops] = some (res (guarRes l trips fs stops).1 (guarRes l trips fs stops).2) := by
  have hm := maxLen_lt
  simp only [ref19_CheckGuarantees_M, ref19_CheckGuarantees, asSl, asInt, if_true, bind_some', List.length_map]
  unfold guarRes
  by_cases h64 : l.length > 128
  · rw [if_pos (by simp; omega), if_pos h64]; rfl
  · rw [if_neg (by simp; omega), if_neg h64, ← scanE_eq]
    refine loop_scan' (fun k => (l.map Guar.pv, trips.map Trip.pv, fs.map Freq.pv, stops, (k : Int), ())) l.length _ (fun k hk rec => ?_) (fun rec => ?_) ?_ rfl
    · have h1 : (k : Int) < (l.length : Int) := by omega
      simp only [ref19_CheckGuarantees_L1, decide_eq_true_eq, List.length_map, h1, if_true, guar_one l (by omega) trips fs stops h40 hf k hk, bind_some', asInt, wrap_nat (show k < 9223372036854775807 by omega), bne_d]
      by_cases he : guarErr l trips fs stops k = 0
      · simp [he, errAt, orFin]
      · simp [he, errAt, orFin, res]
    · simp only [ref19_CheckGuarantees_L1, decide_eq_true_eq, List.length_map, Int.lt_irrefl, if_false]; rfl
    · have : 200 < rounds := by decide
      omega
end Go.Ab.Tt
namespace Go.Ab.Tt

def partRes (T : Timetable) : Nat → Int × Int
  | 0 => stopRes T.stops
  | 1 => routeRes T.routes
  | 2 => calRes T.cals
  | 3 => excRes T.excs T.cals.length
  | 4 => tripRes T.trips T.stops.length T.routes.length T.cals.length
  | 5 => freqRes T.freqs T.trips
  | 6 => thrRes T.thrs T.trips T.freqs
  | 7 => guarRes T.guars T.trips T.freqs T.stops.length
  | 8 => pathRes T.paths T.stops.length
  | _ => fareRes T.prods T.disc T.within T.cap
def whole3 (p i e : Int) : PV := .tup [.int .i64 p, .int .i64 i, .int .i64 e]
def partBad (T : Timetable) (p : Nat) : Option (Option PV) := if (partRes T p).2 = 0 then none else some (some (whole3 p (partRes T p).1 (partRes T p).2))
theorem ttA (T : Timetable) : asAgg 13 T.pv = some () := rfl
theorem tt0 (T : Timetable) : cell T.pv 0 = .rs 4 (T.stops.map Stop.pv) := rfl
theorem tt1 (T : Timetable) : cell T.pv 1 = .rs 3 (T.routes.map Route.pv) := rfl
theorem tt2 (T : Timetable) : cell T.pv 2 = .rs 10 (T.cals.map Cal.pv) := rfl
theorem tt3 (T : Timetable) : cell T.pv 3 = .rs 3 (T.excs.map Exc.pv) := rfl
theorem tt4 (T : Timetable) : cell T.pv 4 = .rs 5 (T.trips.map Trip.pv) := rfl
theorem tt5 (T : Timetable) : cell T.pv 5 = .rs 4 (T.freqs.map Freq.pv) := rfl
theorem tt6 (T : Timetable) : cell T.pv 6 = .rs 2 (T.thrs.map Thr.pv) := rfl
theorem tt7 (T : Timetable) : cell T.pv 7 = .rs 3 (T.guars.map Guar.pv) := rfl
theorem tt8 (T : Timetable) : cell T.pv 8 = .rs 4 (T.paths.map Path.pv) := rfl
theorem tt9 (T : Timetable) : cell T.pv 9 = .rs 6 (T.prods.map Prdt.pv) := rfl
theorem tt10 (T : Timetable) : cell T.pv 10 = .int .i64 T.disc := rfl
theorem tt11 (T : Timetable) : cell T.pv 11 = .int .i64 T.within := rfl
theorem tt12 (T : Timetable) : cell T.pv 12 = .int .i64 T.cap := rfl
theorem ttF (l : List Prdt) (a b c : Int) : PV.agg [.rs 6 (l.map Prdt.pv), .int .i64 a, .int .i64 b, .int .i64 c] = faresPV l a b c := rfl
theorem ttE (T : Timetable) : PV.agg [.rs 4 (T.stops.map Stop.pv), .rs 3 (T.routes.map Route.pv), .rs 10 (T.cals.map Cal.pv), .rs 3 (T.excs.map Exc.pv), .rs 5 (T.trips.map Trip.pv), .rs 4 (T.freqs.map Freq.pv), .rs 2 (T.thrs.map Thr.pv), .rs 3 (T.guars.map Guar.pv), .rs 4 (T.paths.map Path.pv), .rs 6 (T.prods.map Prdt.pv), .int .i64 T.disc, .int .i64 T.within, .int .i64 T.cap] = T.pv := rfl
def Small (T : Timetable) : Prop := ∀ y ∈ T.trips, y.calls.length ≤ 40
theorem part_ref (T : Timetable) (hT : T.Ok) (hs : Small T) (p : Nat) (hp : p < 10) : ref22_part_M [T.pv, .int .i64 p] = some (res (partRes T p).1 (partRes T p).2) := by
  have h0 := stop_ref T.stops hT.stops
  have h1 := route_ref T.routes hT.routes
  have h2 := cal_ref T.cals hT.cals
  have h3 := exc_ref T.excs T.cals.length hT.excs
  have h4 := trip_ref T.trips T.stops.length T.routes.length T.cals.length hT.trips
  have h5 := freq_ref T.freqs T.trips hT.trips hs hT.freqs.1
  have h6 := thr_ref T.thrs T.trips T.freqs hT.trips hT.freqs.1
  have h7 := guar_ref T.guars T.trips T.freqs T.stops.length hs hT.freqs.1
  have h8 := path_ref T.paths T.stops.length hT.paths.1
  have h9 := fares_ref T.prods T.disc T.within T.cap hT.prods
  simp only [res] at h0 h1 h2 h3 h4 h5 h6 h7 h8 h9
  simp only [ref22_part_M, ref22_part, ttA, tt0, tt1, tt2, tt3, tt4, tt5, tt6, tt7, tt8, tt9, tt10, tt11, tt12, asSl, asInt, if_true, bind_some', List.length_map, ttF, h0, h1, h2, h3, h4, h5, h6, h7, h8, h9, asTup, List.length_cons, List.length_nil, Nat.reduceAdd, List.getD_cons_zero, List.getD_cons_succ]
  match p, hp with
  | 0, _ => rfl
  | 1, _ => rfl
  | 2, _ => rfl
  | 3, _ => rfl
  | 4, _ => rfl
  | 5, _ => rfl
  | 6, _ => rfl
  | 7, _ => rfl
  | 8, _ => rfl
  | 9, _ => rfl
theorem whole_ref (T : Timetable) (hT : T.Ok) (hs : Small T) : ref22_Check_M [T.pv] = orFin ((List.range 10).findSome? (partBad T)) (some (whole3 0 0 0)) := by
  simp only [ref22_Check_M, ref22_Check, ttA, tt0, tt1, tt2, tt3, tt4, tt5, tt6, tt7, tt8, tt9, tt10, tt11, tt12, asSl, asInt, if_true, bind_some']
  refine loop_scan' (fun k => ((k : Int), T.stops.map Stop.pv, T.routes.map Route.pv, T.cals.map Cal.pv, T.excs.map Exc.pv, T.trips.map Trip.pv, T.freqs.map Freq.pv, T.thrs.map Thr.pv, T.guars.map Guar.pv, T.paths.map Path.pv, T.prods.map Prdt.pv, T.disc, T.within, T.cap, ())) 10 _ (fun k hk rec => ?_) (fun rec => ?_) ?_ rfl
  · have h1 : (k : Int) < 10 := by omega
    have hp := part_ref T hT hs k hk
    simp only [res] at hp
    simp only [ref22_Check_L1, decide_eq_true_eq, h1, if_true, ttE, hp, bind_some', asTup, asInt, List.length_cons, List.length_nil, Nat.reduceAdd, List.getD_cons_zero, List.getD_cons_succ, bne_d, wrap_nat (show k < 9223372036854775807 by omega), partBad]
    by_cases he : (partRes T k).2 = 0
    · simp [he, orFin]
    · simp [he, orFin, whole3]
  · simp only [ref22_Check_L1]; rfl
  · decide
theorem whole_prog (T : Timetable) (hT : T.Ok) (hs : Small T) : timetable_Check_M [T.pv] = orFin ((List.range 10).findSome? (partBad T)) (some (whole3 0 0 0)) := by
  have h0 := stop_prog T.stops hT.stops
  have h1 := route_prog T.routes hT.routes
  have h2 := cal_prog T.cals hT.cals
  have h3 := exc_prog T.excs T.cals.length hT.excs
  have h4 := trip_prog T.trips T.stops.length T.routes.length T.cals.length hT.trips
  have h5 := freq_prog T.freqs T.trips hT.trips hs hT.freqs.1
  have h6 := thr_prog T.thrs T.trips T.freqs hT.trips hT.freqs.1
  have h7 := guar_prog T.guars T.trips T.freqs T.stops.length hT.trips hs hT.freqs.1
  have h8 := path_prog T.paths T.stops.length hT.paths.1
  have h9 := fares_prog T.prods T.disc T.within T.cap hT.prods
  simp only [res] at h0 h1 h2 h3 h4 h5 h6 h7 h8 h9
  have w1 : IntKind.i64.wrap (0 + 1) = 1 := by decide
  have w2 : IntKind.i64.wrap (1 + 1) = 2 := by decide
  have w3 : IntKind.i64.wrap (2 + 1) = 3 := by decide
  have w4 : IntKind.i64.wrap (3 + 1) = 4 := by decide
  have w5 : IntKind.i64.wrap (4 + 1) = 5 := by decide
  have w6 : IntKind.i64.wrap (5 + 1) = 6 := by decide
  have w7 : IntKind.i64.wrap (6 + 1) = 7 := by decide
  have w8 : IntKind.i64.wrap (7 + 1) = 8 := by decide
  have w9 : IntKind.i64.wrap (8 + 1) = 9 := by decide
  simp only [timetable_Check_M, timetable_Check, timetable_Check_1_M, timetable_Check_1, timetable_Check_2_M, timetable_Check_2, timetable_Check_3_M, timetable_Check_3, timetable_Check_4_M, timetable_Check_4, timetable_Check_5_M, timetable_Check_5, timetable_Check_6_M, timetable_Check_6, timetable_Check_7_M, timetable_Check_7, timetable_Check_8_M, timetable_Check_8, timetable_Check_9_M, timetable_Check_9, timetable_Check_10_M, timetable_Check_10, ttA, tt0, tt1, tt2, tt3, tt4, tt5, tt6, tt7, tt8, tt9, tt10, tt11, tt12, asSl, asInt, if_true, bind_some', List.length_map, ttF, h0, h1, h2, h3, h4, h5, h6, h7, h8, h9, asTup, List.length_cons, List.length_nil, Nat.reduceAdd, List.getD_cons_zero, List.getD_cons_succ, w1, w2, w3, w4, w5, w6, w7, w8, w9, bne_d]
  have hr : List.range 10 = [0, 1, 2, 3, 4, 5, 6, 7, 8, 9] := by decide
  rw [hr]
  simp only [List.findSome?_cons, List.findSome?_nil, partBad, partRes, whole3]
  generalize stopRes T.stops = r0
  generalize routeRes T.routes = r1
  generalize calRes T.cals = r2
  generalize excRes T.excs T.cals.length = r3
  generalize tripRes T.trips T.stops.length T.routes.length T.cals.length = r4
  generalize freqRes T.freqs T.trips = r5
  generalize thrRes T.thrs T.trips T.freqs = r6
  generalize guarRes T.guars T.trips T.freqs T.stops.length = r7
  generalize pathRes T.paths T.stops.length = r8
  generalize fareRes T.prods T.disc T.within T.cap = r9
  by_cases e0 : r0.2 = 0
  rotate_left
  · simp [e0, orFin]
  by_cases e1 : r1.2 = 0
  rotate_left
  · simp [e0, e1, orFin]
  by_cases e2 : r2.2 = 0
  rotate_left
  · simp [e0, e1, e2, orFin]
  by_cases e3 : r3.2 = 0
  rotate_left
  · simp [e0, e1, e2, e3, orFin]
  by_cases e4 : r4.2 = 0
  rotate_left
  · simp [e0, e1, e2, e3, e4, orFin]
  by_cases e5 : r5.2 = 0
  rotate_left
  · simp [e0, e1, e2, e3, e4, e5, orFin]
  by_cases e6 : r6.2 = 0
  rotate_left
  · simp [e0, e1, e2, e3, e4, e5, e6, orFin]
  by_cases e7 : r7.2 = 0
  rotate_left
  · simp [e0, e1, e2, e3, e4, e5, e6, e7, orFin]
  by_cases e8 : r8.2 = 0
  rotate_left
  · simp [e0, e1, e2, e3, e4, e5, e6, e7, e8, orFin]
  by_cases e9 : r9.2 = 0
  rotate_left
  · simp [e0, e1, e2, e3, e4, e5, e6, e7, e8, e9, orFin]
  simp [e0, e1, e2, e3, e4, e5, e6, e7, e8, e9, orFin]
end Go.Ab.Tt
