/- A key taken apart, by the program and by the document; keys and their parts invert each other; the first run with some names. -/
import Derived.Test.YtinbhofpofcmeaaGreatDoorRnI
namespace Go.Ab.Tt
set_option maxRecDepth 100000
set_option linter.unusedVariables false
set_option linter.unusedSimpArgs false

def parseP (r : Bytes) : Option (Bytes × Bytes) := match r.dropWhile isD with | c :: b => if c = 35 then (if b.all isD = true then some (r.takeWhile isD, b) else none) else none | [] => none
theorem parseR_alt (s : Bytes) : parseR s = match splitB 64 s with
    | none => noKey
    | some (id, r) => match parseP r with
      | some (a, b) => if (canonB a && canonB b) = true then parsedR id a b else noKey
      | none => noKey := by
  unfold parseR
  cases splitB 64 s with
  | none => rfl
  | some p =>
    obtain ⟨id, r⟩ := p
    simp only
    have h : _ = parseP r := split_digits r
    rw [← h]
    cases splitB 35 r with
    | none => rfl
    | some q =>
      obtain ⟨a, b⟩ := q
      simp only [okD]
      by_cases h1 : a.all isD = true
      · by_cases h2 : b.all isD = true
        · simp only [h1, h2, Bool.true_and, Bool.and_self, if_true]
        · simp only [Bool.not_eq_true] at h2
          simp only [h1, h2, Bool.true_and, Bool.false_and, Bool.and_false, Bool.false_eq_true, if_false]
      · simp only [Bool.not_eq_true] at h1
        simp only [h1, Bool.false_and, Bool.false_eq_true, if_false]
theorem parseP_some {r a b : Bytes} (h : parseP r = some (a, b)) : a.all isD = true ∧ b.all isD = true ∧ r.takeWhile isD = a ∧ r.dropWhile isD = 35 :: b := by
  unfold parseP at h
  split at h
  · rename_i c b' hw
    split at h
    · rename_i hc
      split at h
      · rename_i hb
        simp only [Option.some.injEq, Prod.mk.injEq] at h
        obtain ⟨rfl, rfl⟩ := h
        subst hc
        exact ⟨tw_all r, hb, rfl, hw⟩
      · cases h
    · cases h
  · cases h
theorem all_tw : ∀ {b : Bytes}, b.all isD = true → b.takeWhile isD = b ∧ b.dropWhile isD = []
  | [], _ => ⟨rfl, rfl⟩
  | x :: b, h => by
    simp only [List.all_cons, Bool.and_eq_true] at h
    obtain ⟨h1, h2⟩ := all_tw h.2
    rw [List.takeWhile_cons, List.dropWhile_cons, if_pos h.1, if_pos h.1, h1]
    exact ⟨rfl, h2⟩
theorem dw_nil : ∀ {b : Bytes}, b.dropWhile isD = [] → b.all isD = true
  | [], _ => rfl
  | x :: b, h => by
    rw [List.dropWhile_cons] at h
    split at h
    · rename_i hx
      simp only [List.all_cons, hx, dw_nil h, Bool.and_self]
    · cases h
theorem dw_len (r : Bytes) : (r.dropWhile isD).length ≤ r.length ∧ (r.takeWhile isD).length ≤ r.length := by
  have := congrArg List.length (List.takeWhile_append_dropWhile (p := isD) (l := r))
  rw [List.length_append] at this
  omega
theorem cutpPV_hash (b : Bytes) : cutpPV (35 :: b) = .tup [.str b, .bool true] := by simp [cutpPV]
theorem cutpPV_else {c : UInt8} (h : ¬ c = 35) (b : Bytes) : cutpPV (c :: b) = .tup [.str (c :: b), .bool false] := by simp [cutpPV, h]
theorem cutpPV_nil : cutpPV [] = .tup [.str [], .bool false] := rfl
theorem ge0 (n : Int) : (¬ n < 0) ↔ 0 ≤ n := by omega
theorem parse_prog (s : Bytes) (hs : s.length ≤ 2000) : runs_ParseKey_M [.str s] = some (pkPV (parseR s)) := by
  have hml : (2001 : Nat) ≤ maxLen := by decide
  rw [parseR_alt]
  simp only [runs_ParseKey_M, runs_ParseKey, asStr, bind_some', cut_prog s (by omega)]
  cases hp : splitB 64 s with
  | none =>
    have hd := digits_prog [] (by simp)
    have hc := cutp_prog [] (by simp)
    simp only [List.takeWhile_nil, List.dropWhile_nil, cutpPV_nil] at hd hc
    simp only [asTup, asStr, asBool, List.length_cons, List.length_nil, Nat.reduceAdd, if_true, bind_some', List.getD_cons_zero, List.getD_cons_succ, hd, hc, Bool.not_false, cond_true, noKey, pkPV]
  | some p =>
    obtain ⟨id, r⟩ := p
    obtain ⟨h1, h2⟩ := splitB_some hp
    have hl : s.length = id.length + 1 + r.length := by rw [h1]; simp; omega
    have hw := dw_len r
    have hd := digits_prog r (by omega)
    have hc := cutp_prog (r.dropWhile isD) (by omega)
    simp only [asTup, asStr, asBool, List.length_cons, List.length_nil, Nat.reduceAdd, if_true, bind_some', List.getD_cons_zero, List.getD_cons_succ, hd, hc, Bool.not_true, cond_false]
    cases hP : parseP r with
    | some q =>
      obtain ⟨a, b⟩ := q
      obtain ⟨ha, hb, hta, hdb⟩ := parseP_some hP
      obtain ⟨tb1, tb2⟩ := all_tw hb
      have hbl : b.length ≤ 2000 := by
        have := congrArg List.length hdb
        simp only [List.length_cons] at this
        omega
      have hal : a.length ≤ 2000 := by rw [← hta]; omega
      have hdd := digits_prog b (by omega)
      rw [tb1, tb2] at hdd
      simp only [hdb, cutpPV_hash, hta, if_true, asTup, asStr, asBool, List.length_cons, List.length_nil, Nat.reduceAdd, bind_some', List.getD_cons_zero, List.getD_cons_succ, hdd, Bool.not_true, cond_false, beq_self_eq_true, canon_prog]
      cases hca : canonB a with
      | false => simp only [Bool.not_false, bind_some', cond_true, if_true, Bool.false_and, Bool.false_eq_true, if_false]; rfl
      | true =>
        cases hcb : canonB b with
        | false => simp only [Bool.not_true, Bool.not_false, bind_some', cond_false, cond_true, if_true, Bool.and_false, Bool.false_eq_true, if_false]; rfl
        | true =>
          obtain ⟨n, hn, hnv⟩ := atoi_val a ha hca (by omega)
          obtain ⟨m, hm, hmv⟩ := atoi_val b hb hcb (by omega)
          simp only [Bool.not_true, bind_some', cond_false, Bool.false_eq_true, if_false, Bool.and_self, if_true, ident_ok id (by omega), asBool, hn, hm, asTup, asInt, asIfc, List.length_cons, List.length_nil, Nat.reduceAdd, List.getD_cons_zero, List.getD_cons_succ]
          unfold parsedR
          cases hv : validB id with
          | false => simp only [Bool.not_false, if_true]; rfl
          | true =>
            simp only [Bool.not_true, Bool.false_eq_true, if_false, Bool.true_eq_false]
            by_cases hav : valueZ a < 0
            · have hnd : dayB (valueZ a) = false := by unfold dayB; simp; omega
              simp only [hav, decide_true, cond_true, bind_some', if_true, hnd]
              rfl
            · rw [hnv hav]
              simp only [hav, decide_false, cond_false, dvalid_prog, bind_some', asBool]
              cases hdy : dayB (valueZ a) with
              | false => simp only [Bool.not_false, if_true]; rfl
              | true =>
                simp only [Bool.not_true, Bool.false_eq_true, if_false, Bool.true_eq_false]
                by_cases hbv : valueZ b < 0
                · simp only [hbv, decide_true, if_true]; rfl
                · rw [hmv hbv]
                  simp only [hbv, decide_false, Bool.false_eq_true, if_false]
                  rfl
    | none =>
      cases hdw : r.dropWhile isD with
      | nil =>
        have hdd := digits_prog [] (by simp)
        simp only [List.takeWhile_nil, List.dropWhile_nil] at hdd
        simp only [hdw, cutpPV_nil, asTup, asStr, asBool, List.length_cons, List.length_nil, Nat.reduceAdd, if_true, bind_some', List.getD_cons_zero, List.getD_cons_succ, hdd, Bool.not_false, cond_true]
        rfl
      | cons c b =>
        have hbl : b.length ≤ 2000 := by
          have := congrArg List.length hdw
          simp only [List.length_cons] at this
          omega
        by_cases hc35 : c = 35
        · have hnb : ¬ b.all isD = true := by
            intro hb
            unfold parseP at hP
            rw [hdw] at hP
            simp only [hc35, if_true, hb] at hP
            cases hP
          have hne : ¬ b.dropWhile isD = [] := fun e => hnb (dw_nil e)
          have hdd := digits_prog b (by omega)
          subst hc35
          simp only [hdw, cutpPV_hash, if_true, asTup, asStr, asBool, List.length_cons, List.length_nil, Nat.reduceAdd, bind_some', List.getD_cons_zero, List.getD_cons_succ, hdd, Bool.not_true, cond_false, beq_d, hne, decide_false, Bool.not_false, cond_true]
          rfl
        · have hdd := digits_prog (c :: b) (by simp only [List.length_cons]; omega)
          simp only [hdw, cutpPV_else hc35, if_false, asTup, asStr, asBool, List.length_cons, List.length_nil, Nat.reduceAdd, if_true, bind_some', List.getD_cons_zero, List.getD_cons_succ, hdd, Bool.not_false, cond_true]
          rfl
theorem parsed_ref (id : Bytes) (hi : id.length ≤ 2000) (a b : Bytes) : ref25_parsed_M [.str id, .int .i64 (valueZ a), .int .i64 (valueZ b)] = some (pkPV (parsedR id a b)) := by
  have hml : (2001 : Nat) ≤ maxLen := by decide
  simp only [ref25_parsed_M, ref25_parsed, asStr, asInt, if_true, bind_some', ref13id_ok id (by omega), dvalid25, asBool]
  unfold parsedR
  cases validB id with
  | false => rfl
  | true =>
    simp only [Bool.not_true, Bool.false_eq_true, if_false, Bool.true_eq_false]
    cases dayB (valueZ a) with
    | false => rfl
    | true =>
      simp only [Bool.not_true, Bool.false_eq_true, if_false, Bool.true_eq_false, decide_eq_true_eq]
      by_cases hb : valueZ b < 0
      · rw [if_pos hb, if_pos hb]; rfl
      · rw [if_neg hb, if_neg hb]; rfl
theorem splitB_ne {c x : UInt8} (h : x ≠ c) (r : Bytes) : splitB c (x :: r) = (splitB c r).map fun p => (x :: p.1, p.2) := by
  rw [splitB, if_neg h]
theorem place_cons {c x : UInt8} (h : x ≠ c) (r : Bytes) : placeN c (x :: r) = placeN c r + 1 := by
  unfold placeN
  rw [splitB_ne h]
  cases splitB c r with
  | none => rfl
  | some p => rfl
theorem parse_ref (s : Bytes) (hs : s.length ≤ 2000) : ref25_ParseKey_M [.str s] = some (pkPV (parseR s)) := by
  have hml : (2001 : Nat) ≤ maxLen := by decide
  simp only [ref25_ParseKey_M, ref25_ParseKey, asStr, bind_some', place_ref 64 64 rfl s (by omega), asInt, if_true, beq_d]
  unfold parseR
  cases hp : splitB 64 s with
  | none =>
    have hn : placeN 64 s = s.length := by unfold placeN; rw [hp]
    simp only [hn, decide_true, if_true]
    rfl
  | some p =>
    obtain ⟨id, r⟩ := p
    obtain ⟨h1, h2⟩ := splitB_some hp
    have hl : s.length = id.length + 1 + r.length := by rw [h1]; simp; omega
    have hn : placeN 64 s = id.length := by unfold placeN; rw [hp]
    have c0 : ¬ ((id.length : Int) = (s.length : Int)) := by omega
    have c1 : 0 ≤ (id.length : Int) ∧ (id.length : Int) ≤ (s.length : Int) ∧ (s.length : Int) ≤ (s.length : Int) := by omega
    have t1 : List.drop id.length s = 64 :: r := by rw [h1]; simp
    have hq := place_ref 35 35 rfl (64 :: r) (by simp only [List.length_cons]; omega)
    rw [place_cons (by decide) r] at hq
    have hpl := placeN_le 35 r
    have w1 : IntKind.i64.wrap ((id.length : Int) + ((placeN 35 r + 1 : Nat) : Int)) = ((id.length + 1 + placeN 35 r : Nat) : Int) := by rw [wrap_in (by omega) (by omega)]; omega
    have w2 : IntKind.i64.wrap ((id.length : Int) + 1) = ((id.length + 1 : Nat) : Int) := by rw [wrap_in (by omega) (by omega)]; omega
    have w3 : IntKind.i64.wrap (((id.length + 1 + placeN 35 r : Nat) : Int) + 1) = ((id.length + 1 + placeN 35 r + 1 : Nat) : Int) := by rw [wrap_in (by omega) (by omega)]; omega
    simp only [hn, c0, decide_false, Bool.false_eq_true, if_false, if_pos c1, Int.toNat_natCast, List.take_length, t1, hq, if_true, bind_some', w1, w2, w3]
    cases hq2 : splitB 35 r with
    | none =>
      have hn2 : placeN 35 r = r.length := by unfold placeN; rw [hq2]
      have e : ((id.length + 1 + r.length : Nat) : Int) = (s.length : Int) := by omega
      simp only [hn2, e, decide_true, cond_true, bind_some', if_true]
      rfl
    | some q =>
      obtain ⟨a, b⟩ := q
      obtain ⟨g1, g2⟩ := splitB_some hq2
      have hn2 : placeN 35 r = a.length := by unfold placeN; rw [hq2]
      have hl2 : r.length = a.length + 1 + b.length := by rw [g1]; simp; omega
      have e : ¬ ((id.length + 1 + a.length : Nat) : Int) = (s.length : Int) := by omega
      have d1 : 0 ≤ ((id.length + 1 : Nat) : Int) ∧ ((id.length + 1 : Nat) : Int) ≤ ((id.length + 1 + a.length : Nat) : Int) ∧ ((id.length + 1 + a.length : Nat) : Int) ≤ (s.length : Int) := by omega
      have d2 : 0 ≤ ((id.length + 1 + a.length + 1 : Nat) : Int) ∧ ((id.length + 1 + a.length + 1 : Nat) : Int) ≤ (s.length : Int) ∧ (s.length : Int) ≤ (s.length : Int) := by omega
      have d3 : (0 : Int) ≤ 0 ∧ 0 ≤ (id.length : Int) ∧ (id.length : Int) ≤ (s.length : Int) := by omega
      have s0 : List.drop (Int.toNat 0) (List.take id.length s) = id := by rw [h1]; simp
      have s1 : List.drop (id.length + 1) (List.take (id.length + 1 + a.length) s) = a := by
        rw [h1, g1, List.drop_take, show id.length + 1 + a.length - (id.length + 1) = a.length by omega, List.drop_append, List.drop_of_length_le (by omega), show id.length + 1 - id.length = 1 by omega]
        simp
      have s2 : List.drop (id.length + 1 + a.length + 1) s = b := by
        rw [h1, g1, List.drop_append, List.drop_of_length_le (by omega), show id.length + 1 + a.length + 1 - id.length = a.length + 2 by omega]
        simp [List.drop_append]
      simp only [hn2, e, decide_false, cond_false, bind_some', if_pos d1, if_pos d2, if_pos d3, Int.toNat_natCast, List.take_length, s0, s1, s2, plain_ref a (by omega), plain_ref b (by omega), asBool]
      have hoka : (a.all isD && canonB a) = okD a := rfl
      have hokb : (b.all isD && canonB b) = okD b := rfl
      rw [hoka, hokb]
      cases ha : okD a with
      | false => simp only [Bool.not_false, cond_true, bind_some', if_true, Bool.false_and, Bool.false_eq_true, if_false]; rfl
      | true =>
        cases hb : okD b with
        | false => simp only [Bool.not_true, Bool.not_false, cond_false, cond_true, bind_some', if_true, Bool.and_false, Bool.false_eq_true, if_false]; rfl
        | true =>
          unfold okD at ha hb
          rw [Bool.and_eq_true] at ha hb
          simp only [Bool.not_true, cond_false, bind_some', Bool.false_eq_true, if_false, Bool.and_self, if_true, value_ref a ha.1 ha.2, value_ref b hb.1 hb.2, asInt, parsed_ref id (by omega) a b]
          simp only [pkPV, asTup, asStr, asInt, List.length_cons, List.length_nil, Nat.reduceAdd, if_true, bind_some', List.getD_cons_zero, List.getD_cons_succ]

/-! ### each inverts the other -/
theorem valid_no {s : Bytes} (h : validB s = true) : (64 : UInt8) ∉ s := by
  intro hm
  unfold validB at h
  rw [Bool.and_eq_true, List.all_eq_true] at h
  have := h.2 64 hm
  revert this
  decide
theorem digits_no {s : Bytes} (h : s.all isD = true) : (35 : UInt8) ∉ s := fun hm => by
  have := List.all_eq_true.1 h 35 hm
  revert this
  decide
theorem dec_val (n : Int) (h0 : 0 ≤ n) (h1 : n ≤ 9223372036854775807) : valueZ (Lib.decDigits n.toNat) = n := by
  unfold valueZ
  rw [natF_dec, if_pos (by omega)]
  omega
theorem dec_okD (n : Nat) : okD (Lib.decDigits n) = true := by unfold okD; rw [dec_all, dec_canon]; rfl
theorem key_parse (s : Bytes) (d i : Int) (hi : i ≤ 9223372036854775807) (h : (keyR s d i).2 = 0) : parseR (keyR s d i).1 = (s, d, i, 0) := by
  unfold keyR at h ⊢
  cases hv : validB s with
  | false => rw [hv] at h; cases h
  | true =>
    cases hd : dayB d with
    | false => rw [hv, hd] at h; cases h
    | true =>
      rw [hv, hd] at h
      simp only [Bool.true_eq_false, if_false] at h ⊢
      by_cases hi0 : i < 0
      · rw [if_pos hi0] at h; cases h
      · rw [if_neg hi0]
        have hdb := (dayB_iff d).1 hd
        have e : s ++ [64] ++ Lib.decDigits d.toNat ++ [35] ++ Lib.decDigits i.toNat = s ++ 64 :: (Lib.decDigits d.toNat ++ 35 :: Lib.decDigits i.toNat) := by simp
        rw [e]
        unfold parseR
        rw [splitB_app _ (valid_no hv)]
        simp only
        rw [splitB_app _ (digits_no (dec_all _))]
        simp only [dec_okD, Bool.and_self, if_true]
        unfold parsedR
        rw [dec_val d hdb.1 (by omega), dec_val i (by omega) hi, hv, hd, if_neg hi0]
        simp
theorem parse_key (s : Bytes) (h : (parseR s).2.2.2 = 0) : keyR (parseR s).1 (parseR s).2.1 (parseR s).2.2.1 = (s, 0) := by
  unfold parseR at h ⊢
  cases hp : splitB 64 s with
  | none => rw [hp] at h; cases h
  | some p =>
    obtain ⟨id, r⟩ := p
    obtain ⟨h1, _⟩ := splitB_some hp
    rw [hp] at h
    simp only at h ⊢
    cases hq : splitB 35 r with
    | none => rw [hq] at h; cases h
    | some q =>
      obtain ⟨a, b⟩ := q
      obtain ⟨g1, _⟩ := splitB_some hq
      rw [hq] at h
      simp only at h ⊢
      by_cases hok : (okD a && okD b) = true
      · rw [if_pos hok] at h ⊢
        unfold parsedR at h ⊢
        cases hv : validB id with
        | false => rw [hv] at h; cases h
        | true =>
          cases hd : dayB (valueZ a) with
          | false => rw [hv, hd] at h; cases h
          | true =>
            rw [hv, hd] at h
            simp only [Bool.true_eq_false, if_false] at h ⊢
            by_cases hb : valueZ b < 0
            · rw [if_pos hb] at h; cases h
            · rw [if_neg hb]
              have hdb := (dayB_iff _).1 hd
              simp only [okD, Bool.and_eq_true] at hok
              obtain ⟨⟨oa1, oa2⟩, ob1, ob2⟩ := hok
              have ea : (valueZ a).toNat = natF 0 a := by
                unfold valueZ at hdb ⊢
                split at hdb <;> rename_i hx
                · rw [if_pos hx]; rfl
                · omega
              have eb : (valueZ b).toNat = natF 0 b := by
                unfold valueZ at hb ⊢
                split at hb <;> rename_i hx
                · rw [if_pos hx]; rfl
                · exact absurd (by decide) hb
              unfold keyR
              rw [hv, hd, if_neg hb, ea, eb, dec_natF a oa1 oa2, dec_natF b ob1 ob2]
              simp only [Bool.true_eq_false, if_false]
              rw [h1, g1]
              simp
      · rw [if_neg hok] at h; cases h

/-! ### the first run with these names -/
def hitR (id : Bytes) (d i : Int) (r : Run) : Bool := decide (r.id = id) && decide (r.day = d) && decide (r.inst = i)
def findPV (o : Option Nat) : PV := match o with | some k => .tup [.int .i64 k, .bool true] | none => .tup [.int .i64 0, .bool false]
def findR (l : List Run) (id : Bytes) (d i : Int) : Option Nat := (List.range l.length).find? fun k => match l[k]? with | some r => hitR id d i r | none => false
theorem find_prog (l : List Run) (hl : l.length ≤ maxLen) (id : Bytes) (d i : Int) : runs_Find_M [.rs 8 (l.map Run.pv), .str id, .int .i64 d, .int .i64 i] = some (findPV (findR l id d i)) := by
  have hm := maxLen_lt
  simp only [runs_Find_M, runs_Find, asSl, asStr, asInt, if_true, bind_some', List.length_map]
  refine (loop_scan' (fun k => (id, d, i, l.map Run.pv, (l.length : Int), (k : Int), ())) l.length (fun k => if (match l[k]? with | some r => hitR id d i r | none => false) = true then some (some (.tup [.int .i64 k, .bool true])) else none) (fin := some (.tup [.int .i64 0, .bool false])) (fun k hk rec => ?_) (fun rec => ?_) ?_ rfl).trans ?_
  · have h1 : (k : Int) < (l.length : Int) := by omega
    simp only [runs_Find_L1, decide_eq_true_eq, h1, if_true, idxP_nat, List.getElem?_map, List.getElem?_eq_getElem hk, Option.map_some, bind_some', run1, run2, run3, asStr, asInt, beq_d, bif_and, wrap_nat (show k < 9223372036854775807 by omega)]
    unfold hitR
    cases (decide (l[k].id = id) && decide (l[k].day = d) && decide (l[k].inst = i)) <;> rfl
  · simp only [runs_Find_L1, decide_eq_true_eq, Int.lt_irrefl, if_false]
  · have := rounds_gt; omega
  · rw [findSome_if (fun k => match l[k]? with | some r => hitR id d i r | none => false) (fun k => some (PV.tup [.int .i64 k, .bool true]))]
    unfold findR findPV
    cases (List.range l.length).find? (fun k => match l[k]? with | some r => hitR id d i r | none => false) <;> rfl
theorem find_ref (l : List Run) (hl : l.length ≤ maxLen) (id : Bytes) (d i : Int) : ref25_Find_M [.rs 8 (l.map Run.pv), .str id, .int .i64 d, .int .i64 i] = some (findPV (findR l id d i)) := by
  have hm := maxLen_lt
  simp only [ref25_Find_M, ref25_Find, asSl, asStr, asInt, if_true, bind_some', List.length_map]
  refine (loop_scan' (fun k => (l.map Run.pv, id, d, i, (k : Int), ())) l.length (fun k => if (match l[k]? with | some r => hitR id d i r | none => false) = true then some (some (.tup [.int .i64 k, .bool true])) else none) (fin := some (.tup [.int .i64 0, .bool false])) (fun k hk rec => ?_) (fun rec => ?_) ?_ rfl).trans ?_
  · have h1 : (k : Int) < (l.length : Int) := by omega
    simp only [ref25_Find_L1, decide_eq_true_eq, List.length_map, h1, if_true, idxP_nat, List.getElem?_map, List.getElem?_eq_getElem hk, Option.map_some, bind_some', run1, run2, run3, asStr, asInt, beq_d, bif_and, wrap_nat (show k < 9223372036854775807 by omega)]
    unfold hitR
    cases (decide (l[k].id = id) && decide (l[k].day = d) && decide (l[k].inst = i)) <;> rfl
  · simp only [ref25_Find_L1, decide_eq_true_eq, List.length_map, Int.lt_irrefl, if_false]
  · have := rounds_gt; omega
  · rw [findSome_if (fun k => match l[k]? with | some r => hitR id d i r | none => false) (fun k => some (PV.tup [.int .i64 k, .bool true]))]
    unfold findR findPV
    cases (List.range l.length).find? (fun k => match l[k]? with | some r => hitR id d i r | none => false) <;> rfl
end Go.Ab.Tt
