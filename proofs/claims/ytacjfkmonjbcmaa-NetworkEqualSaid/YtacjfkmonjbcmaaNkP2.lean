/- Footpaths: what the program checks and what the reference checks. -/
import Derived.Test.YtacjfkmonjbcmaaNkP1
import Derived.Test.YtacjfkmonjbcmaaNwP2
namespace Go.Ab.Tt
set_option maxRecDepth 100000
set_option linter.unusedVariables false
set_option linter.unusedSimpArgs false

def pathKey (x : Path) : Int × Int × Bool := (x.a, x.b, x.free)
def pathPV (x : Int × Int × Bool) : PV := .agg [.int .i64 x.1, .int .i64 x.2.1, .bool x.2.2]
theorem path_key (a b : Int × Int × Bool) : peqL (pathPV a).cells (pathPV b).cells = decide (a = b) := by
  obtain ⟨a1, a2, a3⟩ := a
  obtain ⟨b1, b2, b3⟩ := b
  rw [Bool.eq_iff_iff]; simp [pathPV, PV.cells, peqL, peq]
def pathErr (l : List Path) (n : Int) (k : Nat) : Int := match l[k]? with
  | none => 0
  | some x => if (decide (x.a < 0) || decide (x.a ≥ n) || decide (x.b < 0) || decide (x.b ≥ n) || decide (x.a = x.b)) = true then 9 else if (decide (x.secs < 1) || decide (x.secs > 14400)) = true then 2 else if pathKey x ∈ (l.map pathKey).take k then 6 else 0

theorem sound_prog (l : List Path) (n : Int) (hl : l.length ≤ maxLen) : footpath_sound_M [.rs 4 (l.map Path.pv), .int .i64 n] = some (res (scanE (pathErr l n) l.length).1 (scanE (pathErr l n) l.length).2) := by
  have hm := maxLen_lt
  simp only [footpath_sound_M, footpath_sound, asSl, asInt, if_true, bind_some', List.length_map]
  rw [← scanE_eq]
  refine loop_scan' (fun k => (n, l.map Path.pv, (l.length : Int), (k : Int), seen pathPV ((l.map pathKey).take k), ())) l.length _ (fun k hk rec => ?_) (fun rec => ?_) ?_ rfl
  · have h1 : (k : Int) < (l.length : Int) := by omega
    have hput : mput (.agg [.int .i64 l[k].a, .int .i64 l[k].b, .bool l[k].free]) (.bool true) (seen pathPV ((l.map pathKey).take k)) = _ := seen_put path_key (pathKey l[k]) ((l.map pathKey).take k)
    have hlook : mlook (.agg [.int .i64 l[k].a, .int .i64 l[k].b, .bool l[k].free]) (.bool false) (seen pathPV ((l.map pathKey).take k)) = _ := seen_look path_key (pathKey l[k]) ((l.map pathKey).take k)
    simp only [footpath_sound_L1, decide_eq_true_eq, h1, if_true, idxP_nat, List.getElem?_map, List.getElem?_eq_getElem hk, Option.map_some, bind_some', path0, path1, path2, path3, asInt, asBool, hput, hlook, beq_d, wrap_nat (show k < 9223372036854775807 by omega), ids_snoc pathKey l k hk]
    unfold pathErr
    rw [List.getElem?_eq_getElem hk]
    simp only
    by_cases hmem : pathKey l[k] ∈ (l.map pathKey).take k
    · simp only [hmem, if_true]
      by_cases e1 : l[k].a < 0 <;> by_cases e2 : l[k].a ≥ n <;> by_cases e3 : l[k].b < 0 <;> by_cases e4 : l[k].b ≥ n <;> by_cases e5 : l[k].a = l[k].b <;> by_cases e6 : l[k].secs < 1 <;> by_cases e7 : l[k].secs > 14400 <;>
        simp only [e1, e2, e3, e4, e5, e6, e7, decide_true, decide_false, Bool.or_true, Bool.true_or, Bool.or_false, if_true, if_false, Bool.false_eq_true] <;> rfl
    · simp only [hmem, if_false, Bool.false_eq_true]
      by_cases e1 : l[k].a < 0 <;> by_cases e2 : l[k].a ≥ n <;> by_cases e3 : l[k].b < 0 <;> by_cases e4 : l[k].b ≥ n <;> by_cases e5 : l[k].a = l[k].b <;> by_cases e6 : l[k].secs < 1 <;> by_cases e7 : l[k].secs > 14400 <;>
        simp only [e1, e2, e3, e4, e5, e6, e7, decide_true, decide_false, Bool.or_true, Bool.true_or, Bool.or_false, if_true, if_false, Bool.false_eq_true] <;> rfl
  · simp only [footpath_sound_L1, decide_eq_true_eq, Int.lt_irrefl, if_false]; rfl
  · have := rounds_gt; omega


/-! ### sound footpaths, and their closure -/
def toFp (p : Path) : Nw.Fp := ⟨p.a.toNat, p.b.toNat, p.secs.toNat, p.free⟩
def Sound (l : List Path) (n : Nat) : Prop := ∀ p ∈ l, 0 ≤ p.a ∧ p.a < n ∧ 0 ≤ p.b ∧ p.b < n ∧ 1 ≤ p.secs ∧ p.secs ≤ 14400
theorem sound_of {l : List Path} {n : Nat} (h : (scanE (pathErr l n) l.length).2 = 0) : Sound l n := by
  intro p hp
  obtain ⟨k, hk, rfl⟩ := List.getElem_of_mem hp
  have h0 := (scanE_zero _ _).1 h k hk
  unfold pathErr at h0
  rw [List.getElem?_eq_getElem hk] at h0
  simp only at h0
  by_cases c1 : (decide (l[k].a < 0) || decide (l[k].a ≥ n) || decide (l[k].b < 0) || decide (l[k].b ≥ n) || decide (l[k].a = l[k].b)) = true
  · rw [if_pos c1] at h0; omega
  · rw [if_neg c1] at h0
    by_cases c2 : (decide (l[k].secs < 1) || decide (l[k].secs > 14400)) = true
    · rw [if_pos c2] at h0; omega
    · simp only [Bool.or_eq_true, decide_eq_true_eq] at c1 c2
      omega
theorem toFp_pv {p : Path} (h1 : 0 ≤ p.a) (h2 : 0 ≤ p.b) (h3 : 1 ≤ p.secs) : (toFp p).pv = p.pv := by
  simp only [toFp, Nw.Fp.pv, Path.pv]
  rw [Int.toNat_of_nonneg h1, Int.toNat_of_nonneg h2, Int.toNat_of_nonneg (by omega)]
theorem map_toFp {l : List Path} {n : Nat} (h : Sound l n) : (l.map toFp).map Nw.Fp.pv = l.map Path.pv := by
  rw [List.map_map]
  apply List.map_congr_left
  intro p hp
  exact toFp_pv (h p hp).1 (h p hp).2.2.1 (h p hp).2.2.2.2.1
def rowPath (e : List PV) : Path := match e with | [.int .i64 a, .int .i64 b, .int .i64 s, .bool f] => ⟨a, b, s, f⟩ | _ => ⟨0, 0, 0, false⟩
theorem rows_paths : ∀ (L : List (List PV)), (∀ e ∈ L, Nw.IsF e) → rowsP L = (L.map rowPath).map Path.pv
  | [], _ => rfl
  | e :: L, h => by
    obtain ⟨i, k, s, b, rfl⟩ := h e (by simp)
    have := rows_paths L fun x hx => h x (by simp [hx])
    unfold rowsP at this ⊢
    rw [List.map_cons, List.map_cons, List.map_cons, this]
    rfl
def closL (l : List Path) (n : Nat) : List Path := (Nw.allC n (Nw.refW n (l.map toFp) false) (Nw.refW n (l.map toFp) true)).map rowPath
theorem clos_both {l : List Path} {n : Nat} (hn : n ≤ 64) (hl : l.length ≤ 4096) (h : Sound l n) :
    footpath_closure_M [.rs 4 (l.map Path.pv), .int .i64 n] = some (.rs 4 ((closL l n).map Path.pv)) ∧ ref26_Closed_M [.rs 4 (l.map Path.pv), .int .i64 n] = some (.rs 4 ((closL l n).map Path.pv)) := by
  have := Nw.closure_ok (l.map toFp) n hn (by simpa using hl) (fun p hp => by
    obtain ⟨q, hq, rfl⟩ := List.mem_map.1 hp
    have := h q hq
    simp only [toFp]
    omega)
  rw [map_toFp h, rows_paths _ (Nw.allC_isF n _ _)] at this
  exact this
theorem clos_len (l : List Path) (n : Nat) (hn : n ≤ 64) : (closL l n).length ≤ 8192 := by
  have h1 : (closL l n).length = (rowsP (Nw.allC n (Nw.refW n (l.map toFp) false) (Nw.refW n (l.map toFp) true))).length := by simp [closL, rowsP]
  rw [h1, Nw.allC_rows]
  have h2 := Nw.outL_len (it := fun i k => Nw.itR (Nw.refW n (l.map toFp) false i k) (Nw.refW n (l.map toFp) true i k) i k) (fun i k => Nw.itR_len _ _ i k) n n
  have h3 : 2 * n * n ≤ 2 * 64 * 64 := Nat.mul_le_mul (Nat.mul_le_mul_left 2 hn) hn
  omega
theorem path_peq (x y : Path) : peqL [cell x.pv 0, cell x.pv 1, cell x.pv 2, cell x.pv 3] [cell y.pv 0, cell y.pv 1, cell y.pv 2, cell y.pv 3] = decide (x = y) := by
  rw [Bool.eq_iff_iff]
  obtain ⟨a, b, c, d⟩ := x
  obtain ⟨a', b', c', d'⟩ := y
  simp [path0, path1, path2, path3, peqL, peq]
theorem path_chk (x : Path) : chk (Kd.int IntKind.i64 :: [].append (Kd.int IntKind.i64 :: [].append (Kd.int IntKind.i64 :: [].append (Kd.bool :: [].append [])))) [cell x.pv 0, cell x.pv 1, cell x.pv 2, cell x.pv 3] = true := rfl
def closedB (l : List Path) (n : Nat) : Bool := decide (closL l n = l)

theorem isClosed_ok {l : List Path} {n : Nat} (hn : n ≤ 64) (hl : l.length ≤ 4096) (h : (scanE (pathErr l n) l.length).2 = 0) : footpath_IsClosed_M [.rs 4 (l.map Path.pv), .int .i64 n] = some (.bool (closedB l n)) := by
  have hm : 4096 ≤ maxLen := by decide
  have hs := sound_prog l n (by omega)
  have hf := scanE_fst _ _ h
  rw [h, hf] at hs
  have hc := (clos_both hn hl (sound_of h)).1
  have hcl := clos_len l n hn
  have h64 : ¬ decide ((n : Int) > 64) = true := by simp; omega
  have h0 : ¬ (0 : Int) > (n : Int) := by omega
  simp only [footpath_IsClosed_M, footpath_IsClosed, asSl, asInt, if_true, bind_some']
  rw [if_neg h64, hs]
  simp only [res, asTup, List.length_cons, List.length_nil, Nat.reduceAdd, if_true, bind_some', List.getD_cons_zero, List.getD_cons_succ, asInt, if_neg h0, hc, asSl, List.length_map]
  rw [if_neg (by decide)]
  unfold closedB
  by_cases hlen : (closL l n).length = l.length
  · rw [if_neg (by simp [bne_d, hlen])]
    have hr := eq_scan (closL l n) l hlen (some (PV.bool false)) (some (PV.bool true))
    have : some (PV.bool (decide (closL l n = l))) = if closL l n = l then some (PV.bool true) else some (PV.bool false) := by by_cases hc : closL l n = l <;> simp [hc]
    rw [this, ← hr]
    refine loop_scan' (fun k => (l.map Path.pv, (closL l n).map Path.pv, ((closL l n).length : Int), (k : Int), ())) (closL l n).length _ (fun k hk rec => ?_) (fun rec => ?_) ?_ rfl
    · have h1 : decide ((k : Int) < ((closL l n).length : Int)) = true := by simp; omega
      have hk' : k < l.length := by omega
      unfold footpath_IsClosed_L1
      dsimp only
      rw [if_pos h1, idxP_nat, List.getElem?_map, List.getElem?_eq_getElem hk, idxP_nat, List.getElem?_map, List.getElem?_eq_getElem hk']
      simp only [Option.map_some, bind_some']
      rw [if_pos ⟨path_chk _, path_chk _⟩, path_peq, wrap_nat (by omega)]
      by_cases he : (closL l n)[k] = l[k]
      · simp [he, orFin]
      · simp [he, orFin]
    · unfold footpath_IsClosed_L1
      dsimp only
      rw [if_neg (by simp)]
    · have := rounds_gt; omega
  · rw [if_pos (by simp [bne_d]; omega)]
    rw [decide_eq_false (fun hc => hlen (by rw [hc]))]

/-! ### the parts' results -/
def pathsRes (l : List Path) (n : Nat) : Int × Int := if (scanE (pathErr l n) l.length).2 = 0 then (if closedB l n = true then (0, 0) else (0, 18)) else scanE (pathErr l n) l.length
def key4PV (x : Int × Int × Bool) : PV := .agg [.int .i64 x.1, .int .i64 x.2.1, .int .i64 0, .bool x.2.2]
theorem key4 (a b : Int × Int × Bool) : peqL (key4PV a).cells (key4PV b).cells = decide (a = b) := by
  obtain ⟨a1, a2, a3⟩ := a
  obtain ⟨b1, b2, b3⟩ := b
  rw [Bool.eq_iff_iff]; simp [key4PV, PV.cells, peqL, peq]
theorem paths_round (N : Network) (l : List Path) (n : Nat) (hl : l.length ≤ 4096) (hlen : (N.stops.map Stop.pv).length = n) (k : Nat) (hk : k < l.length) (rec : TY11 → Option PV) :
    network_checkPaths_L1 (l.map Path.pv, (l.length : Int), (k : Int), N.stops.map Stop.pv, N.routes.map Route.pv, N.runs.map Run.pv, N.links.map Link.pv, l.map Path.pv, N.prods.map Prdt.pv, N.disc, N.within, N.cap, 0, 0, 0, seen key4PV ((l.map pathKey).take k), ()) rec
      = orFin (if pathErr l n k = 0 then none else some (some (r3 4 k (pathErr l n k)))) (rec (l.map Path.pv, (l.length : Int), ((k + 1 : Nat) : Int), N.stops.map Stop.pv, N.routes.map Route.pv, N.runs.map Run.pv, N.links.map Link.pv, l.map Path.pv, N.prods.map Prdt.pv, N.disc, N.within, N.cap, 0, 0, 0, seen key4PV ((l.map pathKey).take (k + 1)), ())) := by
  have h1 : decide ((k : Int) < (l.length : Int)) = true := by simp; omega
  have hput : mput (.agg [.int .i64 l[k].a, .int .i64 l[k].b, .int .i64 0, .bool l[k].free]) (.bool true) (seen key4PV ((l.map pathKey).take k)) = _ := seen_put key4 (pathKey l[k]) ((l.map pathKey).take k)
  have hlook : mlook (.agg [.int .i64 l[k].a, .int .i64 l[k].b, .int .i64 0, .bool l[k].free]) (.bool false) (seen key4PV ((l.map pathKey).take k)) = _ := seen_look key4 (pathKey l[k]) ((l.map pathKey).take k)
  unfold network_checkPaths_L1
  dsimp only
  rw [if_pos h1, idxP_nat, List.getElem?_map, List.getElem?_eq_getElem hk, hlen]
  simp only [Option.map_some, bind_some', path0, path1, path2, path3, asInt, asBool, if_true, nwithin_ok, bif_or', beq_d, hput, hlook, of_ok, r3A, r30, r31, r32, ids_snoc pathKey l k hk, wrap_nat (show k < 9223372036854775807 by omega)]
  have hA : (!(decide (l[k].a ≥ 0) && decide (l[k].a < (n : Int))) || !(decide (l[k].b ≥ 0) && decide (l[k].b < (n : Int))) || decide (l[k].a = l[k].b)) = (decide (l[k].a < 0) || decide (l[k].a ≥ (n : Int)) || decide (l[k].b < 0) || decide (l[k].b ≥ (n : Int)) || decide (l[k].a = l[k].b)) := by
    rw [Bool.eq_iff_iff]
    simp only [Bool.or_eq_true, Bool.not_eq_true', Bool.and_eq_false_iff, decide_eq_true_eq, decide_eq_false_iff_not]
    omega
  rw [hA]
  unfold pathErr
  rw [List.getElem?_eq_getElem hk]
  simp only
  generalize (decide (l[k].a < 0) || decide (l[k].a ≥ (n : Int)) || decide (l[k].b < 0) || decide (l[k].b ≥ (n : Int)) || decide (l[k].a = l[k].b)) = A
  generalize (decide (l[k].secs < 1) || decide (l[k].secs > 14400)) = B
  by_cases hmem : pathKey l[k] ∈ (l.map pathKey).take k
  · simp only [hmem, if_true]
    cases A <;> cases B <;> rfl
  · simp only [hmem, if_false]
    cases A <;> cases B <;> rfl

theorem checkPaths_ok (N : Network) (hn : N.stops.length ≤ 64) (hl : N.paths.length ≤ 4096) : network_checkPaths_M [N.pv] = some (prt 4 (pathsRes N.paths N.stops.length)) := by
  have hm : 4096 ≤ maxLen := by decide
  simp only [network_checkPaths_M, network_checkPaths, netA, net0, net1, net2, net3, net4, net5, net6, net7, net8, bind_some', List.length_map]
  generalize hl' : N.paths = l at hl ⊢
  generalize hn' : N.stops.length = n at hn ⊢
  have hlen : (N.stops.map Stop.pv).length = n := by simpa using hn'
  have hg := scanE_gen (pathErr l n) l.length (fun i e => r3 4 i e) (some (if closedB l n = true then r3 0 0 0 else r3 4 0 18))
  have hR : some (prt 4 (pathsRes l n)) = if (scanE (pathErr l n) l.length).2 = 0 then some (if closedB l n = true then r3 0 0 0 else r3 4 0 18) else some (r3 4 (scanE (pathErr l n) l.length).1 (scanE (pathErr l n) l.length).2) := by
    unfold pathsRes prt
    by_cases h : (scanE (pathErr l n) l.length).2 = 0
    · rw [if_pos h, if_pos h]
      cases closedB l n <;> rfl
    · rw [if_neg h, if_neg h, if_neg h]
  rw [hR, ← hg]
  by_cases hz : (scanE (pathErr l n) l.length).2 = 0
  · refine loop_scan' (fun k => (l.map Path.pv, (l.length : Int), (k : Int), N.stops.map Stop.pv, N.routes.map Route.pv, N.runs.map Run.pv, N.links.map Link.pv, l.map Path.pv, N.prods.map Prdt.pv, N.disc, N.within, N.cap, 0, 0, 0, seen key4PV ((l.map pathKey).take k), ())) l.length _ (fun k hk rec => paths_round N l n hl hlen k hk rec) (fun rec => ?_) ?_ rfl
    · unfold network_checkPaths_L1
      dsimp only
      rw [if_neg (by simp), hlen, isClosed_ok hn hl hz]
      simp only [bind_some', asBool, of_ok, r3A, r30, r31, r32]
      cases closedB l n <;> rfl
    · have := rounds_gt; omega
  · have hst := loop_scan' (body := network_checkPaths_L1) (fun k => (l.map Path.pv, (l.length : Int), (k : Int), N.stops.map Stop.pv, N.routes.map Route.pv, N.runs.map Run.pv, N.links.map Link.pv, l.map Path.pv, N.prods.map Prdt.pv, N.disc, N.within, N.cap, 0, 0, 0, seen key4PV ((l.map pathKey).take k), ())) l.length _ (fin := network_checkPaths_L1 (l.map Path.pv, (l.length : Int), (l.length : Int), N.stops.map Stop.pv, N.routes.map Route.pv, N.runs.map Run.pv, N.links.map Link.pv, l.map Path.pv, N.prods.map Prdt.pv, N.disc, N.within, N.cap, 0, 0, 0, seen key4PV ((l.map pathKey).take l.length), ()) fun _ => none) (fun k hk rec => paths_round N l n hl hlen k hk rec) (fun rec => ?_) (by have := rounds_gt; omega) (s0 := (l.map Path.pv, (l.length : Int), 0, N.stops.map Stop.pv, N.routes.map Route.pv, N.runs.map Run.pv, N.links.map Link.pv, l.map Path.pv, N.prods.map Prdt.pv, N.disc, N.within, N.cap, 0, 0, 0, [], ())) rfl
    · rw [hst, scanE_gen, scanE_gen, if_neg hz, if_neg hz]
    · unfold network_checkPaths_L1
      dsimp only
      rw [if_neg (by simp), if_neg (by simp)]
end Go.Ab.Tt

namespace Go.Ab.Tt
set_option maxRecDepth 100000
set_option linter.unusedVariables false
set_option linter.unusedSimpArgs false

end Go.Ab.Tt

namespace Go.Ab.Tt
set_option maxRecDepth 100000
set_option linter.unusedVariables false
set_option linter.unusedSimpArgs false

def runKey (x : Run) : Bytes × Int × Int := (x.id, x.day, x.inst)
def rkPV (x : Bytes × Int × Int) : PV := .agg [.str x.1, .int .i64 x.2.1, .int .i64 x.2.2]
theorem rk_key (a b : Bytes × Int × Int) : peqL (rkPV a).cells (rkPV b).cells = decide (a = b) := by
  obtain ⟨a1, a2, a3⟩ := a
  obtain ⟨b1, b2, b3⟩ := b
  rw [Bool.eq_iff_iff]; simp [rkPV, PV.cells, peqL, peq]
def runErr (l : List Run) (stops routes : Int) (k : Nat) : Int := match l[k]? with
  | none => 0
  | some x => if validB x.id = false then 12 else if (decide (x.trip < -1) || decide (x.inst < 0)) = true then 2
    else if (decide (x.day < 0) || decide (x.day > 36524)) = true then 11 else if (decide (x.route < 0) || decide (x.route ≥ routes)) = true then 9
    else if (callRes x.calls stops 0 3155932800).2 = 0 then (if runKey x ∈ (l.map runKey).take k then 6 else 0) else (callRes x.calls stops 0 3155932800).2
def runsRes (l : List Run) (stops routes : Int) : Int × Int := if l.length > 1024 then (0, 5) else scanE (runErr l stops routes) l.length

theorem runs_round (N : Network) (l : List Run) (hl : l.length ≤ maxLen ∧ ∀ y ∈ l, y.Ok) (k : Nat) (hk : k < l.length) (rec : TY11 → Option PV) :
    network_checkRuns_L1 (l.map Run.pv, (l.length : Int), (k : Int), N.stops.map Stop.pv, N.routes.map Route.pv, l.map Run.pv, N.links.map Link.pv, N.paths.map Path.pv, N.prods.map Prdt.pv, N.disc, N.within, N.cap, 0, 0, 0, seen rkPV ((l.map runKey).take k), ()) rec
      = orFin (if runErr l N.stops.length N.routes.length k = 0 then none else some (some (r3 2 k (runErr l N.stops.length N.routes.length k)))) (rec (l.map Run.pv, (l.length : Int), ((k + 1 : Nat) : Int), N.stops.map Stop.pv, N.routes.map Route.pv, l.map Run.pv, N.links.map Link.pv, N.paths.map Path.pv, N.prods.map Prdt.pv, N.disc, N.within, N.cap, 0, 0, 0, seen rkPV ((l.map runKey).take (k + 1)), ())) := by
  have hm := maxLen_lt
  have h1 : decide ((k : Int) < (l.length : Int)) = true := by simp; omega
  have hO := hl.2 _ (List.getElem_mem hk)
  have hid := ident_ok l[k].id hO.id
  have hcall := call_prog l[k].calls N.stops.length 0 3155932800 hO.calls.1
  simp only [res] at hcall
  have hput : mput (.agg [.str l[k].id, .int .i64 l[k].day, .int .i64 l[k].inst]) (.bool true) (seen rkPV ((l.map runKey).take k)) = _ := seen_put rk_key (runKey l[k]) ((l.map runKey).take k)
  have hlook : mlook (.agg [.str l[k].id, .int .i64 l[k].day, .int .i64 l[k].inst]) (.bool false) (seen rkPV ((l.map runKey).take k)) = _ := seen_look rk_key (runKey l[k]) ((l.map runKey).take k)
  unfold network_checkRuns_L1
  dsimp only
  rw [if_pos h1, idxP_nat, List.getElem?_map, List.getElem?_eq_getElem hk]
  simp only [Option.map_some, bind_some', run0, run1, run2, run3, run4, run7, asStr, asInt, asBool, asSl, if_true, List.length_map, hid, hcall, asTup, List.length_cons, List.length_nil, Nat.reduceAdd, List.getD_cons_zero, List.getD_cons_succ, bif_or', bne_d, hput, hlook, of_ok, r3A, r30, r31, r32, ids_snoc runKey l k hk, wrap_nat (show k < 9223372036854775807 by omega)]
  unfold runErr
  rw [List.getElem?_eq_getElem hk]
  simp only
  generalize (decide (l[k].trip < -1) || decide (l[k].inst < 0)) = A
  generalize (decide (l[k].day < 0) || decide (l[k].day > 36524)) = B
  generalize (decide (l[k].route < 0) || decide (l[k].route ≥ (N.routes.length : Int))) = C
  generalize (callRes l[k].calls N.stops.length 0 3155932800).2 = e
  cases validB l[k].id with
  | false => rfl
  | true =>
    cases A with
    | true => rfl
    | false =>
      cases B with
      | true => rfl
      | false =>
        cases C with
        | true => rfl
        | false =>
          simp only [Bool.not_true, Bool.false_eq_true, Bool.true_eq_false, if_false]
          by_cases he : e = 0
          · subst he
            by_cases hmem : runKey l[k] ∈ (l.map runKey).take k
            · simp only [hmem, if_true, decide_true, Bool.not_true, Bool.false_eq_true, if_false]; rfl
            · simp only [hmem, if_true, decide_true, decide_false, Bool.not_true, Bool.false_eq_true, if_false]; rfl
          · simp only [he, if_false, if_true, decide_false, Bool.not_false]; rfl

theorem checkRuns_ok (N : Network) (hl : N.runs.length ≤ maxLen ∧ ∀ y ∈ N.runs, y.Ok) : network_checkRuns_M [N.pv] = some (prt 2 (runsRes N.runs N.stops.length N.routes.length)) := by
  have hm := maxLen_lt
  simp only [network_checkRuns_M, network_checkRuns, netA, net0, net1, net2, net3, net4, net5, net6, net7, net8, bind_some', List.length_map]
  generalize hl' : N.runs = l at hl ⊢
  unfold runsRes
  by_cases h64 : l.length > 1024
  · rw [if_pos (by simp; omega), if_pos h64]; rfl
  · rw [if_neg (by simp; omega), if_neg h64]
    have hR : some (prt 2 (scanE (runErr l N.stops.length N.routes.length) l.length)) = if (scanE (runErr l N.stops.length N.routes.length) l.length).2 = 0 then some (r3 0 0 0) else some (r3 2 (scanE (runErr l N.stops.length N.routes.length) l.length).1 (scanE (runErr l N.stops.length N.routes.length) l.length).2) := by
      unfold prt
      by_cases h : (scanE (runErr l N.stops.length N.routes.length) l.length).2 = 0
      · rw [if_pos h, if_pos h]
      · rw [if_neg h, if_neg h]
    rw [hR, ← scanE_gen (runErr l N.stops.length N.routes.length) l.length (fun i e => r3 2 i e)]
    refine loop_scan' (fun k => (l.map Run.pv, (l.length : Int), (k : Int), N.stops.map Stop.pv, N.routes.map Route.pv, l.map Run.pv, N.links.map Link.pv, N.paths.map Path.pv, N.prods.map Prdt.pv, N.disc, N.within, N.cap, 0, 0, 0, seen rkPV ((l.map runKey).take k), ())) l.length _ (fun k hk rec => runs_round N l hl k hk rec) (fun rec => ?_) ?_ rfl
    · unfold network_checkRuns_L1
      dsimp only
      rw [if_neg (by simp)]
      rfl
    · have := rounds_gt; omega

/-! ### the reference -/
end Go.Ab.Tt

namespace Go.Ab.Tt
set_option maxRecDepth 100000
set_option linter.unusedVariables false
set_option linter.unusedSimpArgs false

/-- the run after a run, by the Stay links of a list -/
def nx (p : List Link) (v : Int) : Option Int := p.foldl (fun o x => if (x.stay && decide (x.a = v)) = true then some x.b else o) none
theorem nx_snoc (p : List Link) (x : Link) (v : Int) : nx (p ++ [x]) v = if (x.stay && decide (x.a = v)) = true then some x.b else nx p v := by
  unfold nx; rw [List.foldl_append]; rfl

/-- m steps of a walk -/
def it (f : Int → Option Int) : Nat → Int → Option Int
  | 0, v => some v
  | m + 1, v => (f v).bind (it f m)
theorem it_tail (f : Int → Option Int) (m : Nat) (v : Int) : it f (m + 1) v = (it f m v).bind f := by
  induction m generalizing v with
  | zero => show (f v).bind (it f 0) = f v; cases h : f v <;> rfl
  | succ m ih =>
    show (f v).bind (it f (m + 1)) = ((f v).bind (it f m)).bind f
    cases h : f v with
    | none => rfl
    | some w => exact ih w
def leadsB (p : List Link) (a b : Int) (n : Nat) : Bool := (List.range n).any fun t => decide (it (nx p) (t + 1) a = some b)

def Ranked (f : Int → Option Int) : Prop := ∃ r : Int → Nat, ∀ v w, f v = some w → r w < r v
theorem ranked_nil : Ranked (nx []) := ⟨fun _ => 0, fun v w h => by cases h⟩

/-- the nodes with an edge -/
theorem nx_dom {p : List Link} {v w : Int} (h : nx p v = some w) : ∃ x ∈ p, x.stay = true ∧ x.a = v ∧ x.b = w := by
  have key : ∀ n, n ≤ p.length → nx (p.take n) v = some w → ∃ x ∈ p, x.stay = true ∧ x.a = v ∧ x.b = w := by
    intro n
    induction n with
    | zero => intro _ h; cases h
    | succ n ih =>
      intro hn h
      have hn' : n < p.length := by omega
      rw [List.take_succ_eq_append_getElem hn', nx_snoc] at h
      by_cases hc : (p[n].stay && decide (p[n].a = v)) = true
      · rw [if_pos hc] at h
        simp only [Bool.and_eq_true, decide_eq_true_eq] at hc
        exact ⟨p[n], List.getElem_mem hn', hc.1, hc.2, by simpa using h⟩
      · rw [if_neg hc] at h
        exact ih (by omega) h
  exact key p.length (Nat.le_refl _) (by rw [List.take_length]; exact h)

/-- a longest walk: it ends before it has made as many steps as there are links -/
theorem walk_nodup {f : Int → Option Int} (hf : Ranked f) (S : List Int) (hS : ∀ v w, f v = some w → v ∈ S) : ∀ m v, it f m v ≠ none → m ≤ S.length := by
  obtain ⟨r, hr⟩ := hf
  induction hn : S.length generalizing S f r with
  | zero =>
    intro m v h
    cases m with
    | zero => omega
    | succ m =>
      exfalso
      cases hfv : f v with
      | none => exact h (by show (f v).bind _ = none; rw [hfv]; rfl)
      | some w =>
        have := hS v w hfv
        rw [List.length_eq_zero_iff.1 hn] at this
        cases this
  | succ n ih =>
    intro m v h
    cases m with
    | zero => omega
    | succ m =>
      cases hfv : f v with
      | none => exact absurd (by show (f v).bind _ = none; rw [hfv]; rfl) h
      | some w =>
        have hvS := hS v w hfv
        -- without v the walk goes on
        let g : Int → Option Int := fun x => if x = v then none else f x
        have hg : ∀ x y, g x = some y → r y < r x := fun x y hxy => by
          by_cases hx : x = v
          · simp [g, hx] at hxy
          · simp only [g, hx, if_false] at hxy; exact hr x y hxy
        have hgS : ∀ x y, g x = some y → x ∈ S.erase v := fun x y hxy => by
          by_cases hx : x = v
          · simp [g, hx] at hxy
          · simp only [g, hx, if_false] at hxy
            exact (List.mem_erase_of_ne hx).2 (hS x y hxy)
        have hlen : (S.erase v).length = n := by rw [List.length_erase_of_mem hvS]; omega
        have hsame : ∀ k x, r x < r v → it g k x = it f k x := by
          intro k
          induction k with
          | zero => intros; rfl
          | succ k ihk =>
            intro x hx
            have hxv : x ≠ v := fun h => by subst h; omega
            show (g x).bind (it g k) = (f x).bind (it f k)
            have : g x = f x := by simp [g, hxv]
            rw [this]
            cases hfx : f x with
            | none => rfl
            | some y => exact ihk y (by have := hr x y hfx; omega)
        have hw : it f m w ≠ none := by
          intro hc
          apply h
          show (f v).bind (it f m) = none
          rw [hfv]; exact hc
        have := ih (S.erase v) hgS r hg hlen m w (by rw [hsame m w (hr v w hfv)]; exact hw)
        omega
theorem it_ends {p : List Link} (hp : Ranked (nx p)) {m : Nat} (hm : p.length < m) (v : Int) : it (nx p) m v = none := by
  cases h : it (nx p) m v with
  | none => rfl
  | some w =>
    have := walk_nodup hp (p.map Link.a) (fun x y hxy => by
      obtain ⟨l, h1, h2, h3, h4⟩ := nx_dom hxy
      exact List.mem_map.2 ⟨l, h1, h3⟩) m v (by rw [h]; exact fun h => nomatch h)
    rw [List.length_map] at this
    omega
/-- one more edge, which closes no ring -/
theorem ranked_snoc {p : List Link} (hp : Ranked (nx p)) (x : Link) (h : x.stay = false ∨ (x.a ≠ x.b ∧ nx p x.a = none ∧ leadsB p x.b x.a (p.length + 1) = false)) : Ranked (nx (p ++ [x])) := by
  cases hs : x.stay with
  | false =>
    obtain ⟨r, hr⟩ := hp
    refine ⟨r, fun v w hvw => hr v w ?_⟩
    rw [nx_snoc, hs, Bool.false_and, if_neg (by simp)] at hvw
    exact hvw
  | true =>
    rw [hs] at h
    rcases h with h | ⟨hab, hna, hlead⟩
    · cases h
    have hp0 := hp
    obtain ⟨r, hr⟩ := hp
    have hno : ∀ t, it (nx p) (t + 1) x.b ≠ some x.a := by
      intro t ht
      by_cases hlt : t < p.length + 1
      · unfold leadsB at hlead
        rw [List.any_eq_false] at hlead
        exact hlead t (by simpa using hlt) (by simpa using ht)
      · rw [it_ends hp0 (by omega)] at ht; cases ht
    -- what reaches x.a gets a high rank
    let R : Int → Prop := fun v => ∃ t, it (nx p) t v = some x.a
    have hRb : ¬ R x.b := fun ⟨t, ht⟩ => by
      cases t with
      | zero => exact hab (by simpa [it] using ht.symm)
      | succ t => exact hno t ht
    refine ⟨fun v => open Classical in if R v then r v + r x.b + 1 else r v, fun v w hvw => ?_⟩
    rw [nx_snoc, hs, Bool.true_and] at hvw
    by_cases hv : x.a = v
    · rw [if_pos (by simpa using hv)] at hvw
      simp only [Option.some.injEq] at hvw
      subst hvw
      have hRv : R v := ⟨0, by show some v = some x.a; rw [hv]⟩
      show (open Classical in if R x.b then r x.b + r x.b + 1 else r x.b) < (open Classical in if R v then r v + r x.b + 1 else r v)
      rw [if_neg hRb, if_pos hRv]; omega
    · rw [if_neg (by simpa using hv)] at hvw
      have hlt := hr v w hvw
      show (open Classical in if R w then r w + r x.b + 1 else r w) < (open Classical in if R v then r v + r x.b + 1 else r v)
      by_cases hw : R w
      · have hRv : R v := by
          obtain ⟨t, ht⟩ := hw
          exact ⟨t + 1, by show (nx p v).bind (it (nx p) t) = some x.a; rw [hvw]; exact ht⟩
        rw [if_pos hw, if_pos hRv]; omega
      · rw [if_neg hw]
        by_cases hRv : R v
        · rw [if_pos hRv]; omega
        · rw [if_neg hRv]; exact hlt
end Go.Ab.Tt

namespace Go.Ab.Tt
set_option maxRecDepth 100000
set_option linter.unusedVariables false
set_option linter.unusedSimpArgs false

def intPV (a : Int) : PV := .int .i64 a
def linkKey (x : Link) : Int × Int × Int × Int := (x.a, x.ac, x.b, x.bc)
def lkPV (x : Int × Int × Int × Int) : PV := .agg [.int .i64 x.1, .int .i64 x.2.1, .int .i64 x.2.2.1, .int .i64 x.2.2.2]
theorem lk_key (a b : Int × Int × Int × Int) : peqL (lkPV a).cells (lkPV b).cells = decide (a = b) := by
  obtain ⟨a1, a2, a3, a4⟩ := a
  obtain ⟨b1, b2, b3, b4⟩ := b
  rw [Bool.eq_iff_iff]; simp [lkPV, PV.cells, peqL, peq]

/-! ### the map of the next runs -/
def nextT (p : List Link) : List (Int × PV) := p.foldl (fun m x => if x.stay = true then tput x.a (.int .i64 x.b) m else m) []
theorem nextT_snoc (p : List Link) (x : Link) : nextT (p ++ [x]) = if x.stay = true then tput x.a (.int .i64 x.b) (nextT p) else nextT p := by
  unfold nextT; rw [List.foldl_append]; rfl
def thas (a : Int) (m : List (Int × PV)) : Bool := m.any fun x => decide (a = x.1)
theorem mhas_pv (a : Int) : ∀ m, mhas (intPV a) (pvMap intPV m) = thas a m
  | [] => rfl
  | (b, u) :: r => by
    have := mhas_pv a r
    simp only [pvMap] at this
    simp only [pvMap, List.map_cons, mhas, thas, List.any_cons]
    rw [this]
    have : peqL (intPV a).cells (intPV b).cells = decide (a = b) := int_key a b
    rw [this]; rfl
theorem thas_put (a b : Int) (v : PV) : ∀ m, thas a (tput b v m) = (decide (a = b) || thas a m)
  | [] => by simp [thas, tput]
  | (c, u) :: r => by
    have := thas_put a b v r
    simp only [thas] at this ⊢
    by_cases h : b = c
    · subst h; simp [tput]
    · simp only [tput, h, if_false, List.any_cons, this]
      cases decide (a = c) <;> simp
theorem snoc_ind {A : Type} {P : List A → Prop} (h0 : P []) (h1 : ∀ p x, P p → P (p ++ [x])) (l : List A) : P l := by
  have key : ∀ n, n ≤ l.length → P (l.take n) := by
    intro n
    induction n with
    | zero => intro _; rw [List.take_zero]; exact h0
    | succ n ih =>
      intro hn
      rw [List.take_succ_eq_append_getElem (show n < l.length by omega)]
      exact h1 _ _ (ih (by omega))
  have := key l.length (Nat.le_refl _)
  rw [List.take_length] at this
  exact this
theorem next_look (p : List Link) (v : Int) : tlook v (.int .i64 0) (nextT p) = .int .i64 ((nx p v).getD 0) := by
  induction p using snoc_ind with
  | h0 => rfl
  | h1 p x ih =>
    rw [nextT_snoc, nx_snoc]
    cases hs : x.stay with
    | false => rw [if_neg (by simp), Bool.false_and, if_neg (by simp)]; exact ih
    | true =>
      rw [if_pos rfl, tlook_put, Bool.true_and]
      by_cases h : x.a = v
      · rw [if_pos h.symm, if_pos (by simpa using h)]; rfl
      · rw [if_neg (fun hc => h hc.symm), if_neg (by simpa using h)]; exact ih
theorem next_has (p : List Link) (v : Int) : thas v (nextT p) = (nx p v).isSome := by
  induction p using snoc_ind with
  | h0 => rfl
  | h1 p x ih =>
    rw [nextT_snoc, nx_snoc]
    cases hs : x.stay with
    | false => rw [if_neg (by simp), Bool.false_and, if_neg (by simp)]; exact ih
    | true =>
      rw [if_pos rfl, thas_put, Bool.true_and]
      by_cases h : x.a = v
      · rw [if_pos (by simpa using h)]; simp [h]
      · rw [if_neg (by simpa using h), ih]
        have : decide (v = x.a) = false := by simpa using fun hc => h hc.symm
        rw [this, Bool.false_or]
def nextV (p : List Link) : List (PV × PV) := pvMap intPV (nextT p)
theorem nextV_look (p : List Link) (v : Int) : mlook (.int .i64 v) (.int .i64 0) (nextV p) = .int .i64 ((nx p v).getD 0) := by
  have := mlook_pv (key := intPV) int_key v (.int .i64 0) (nextT p)
  rw [next_look] at this
  exact this
theorem nextV_has (p : List Link) (v : Int) : mhas (.int .i64 v) (nextV p) = (nx p v).isSome := by
  have := mhas_pv v (nextT p)
  rw [next_has] at this
  exact this
theorem nextV_snoc (p : List Link) (x : Link) : nextV (p ++ [x]) = if x.stay = true then mput (.int .i64 x.a) (.int .i64 x.b) (nextV p) else nextV p := by
  have := mput_pv (key := intPV) int_key x.a (.int .i64 x.b) (nextT p)
  unfold nextV
  rw [nextT_snoc]
  by_cases h : x.stay = true
  · rw [if_pos h, if_pos h]; exact this.symm
  · rw [if_neg h, if_neg h]
def intoL (p : List Link) : List Int := (p.filter Link.stay).map Link.b
theorem intoL_snoc (p : List Link) (x : Link) : intoL (p ++ [x]) = if x.stay = true then intoL p ++ [x.b] else intoL p := by
  unfold intoL
  by_cases h : x.stay = true <;> simp [List.filter_append, List.filter_cons, h]
/-! ### walks in the program -/
def badC (f : Int → Option Int) (a b : Int) (t : Nat) : Option (Option PV) := (it f (t + 1) a).elim (some (some (.bool false))) fun v => if v = b then some (some (.bool true)) else none
theorem chain_scan (f : Int → Option Int) (b : Int) (n : Nat) : ∀ a, it f (n + 1) a = none →
    orFin ((List.range n).findSome? (badC f a b)) (some (.bool false)) = some (.bool ((List.range (n + 1)).any fun t => decide (it f (t + 1) a = some b))) := by
  induction n with
  | zero => intro a h; simp [orFin, h]
  | succ n ih =>
    intro a h
    rw [List.range_succ_eq_map (n := n + 1), List.range_succ_eq_map (n := n), List.findSome?_cons, List.any_cons]
    have h0 : it f (0 + 1) a = f a := by show (f a).bind (it f 0) = f a; cases hf : f a <;> rfl
    unfold badC
    rw [h0]
    cases hf : f a with
    | none =>
      have hz : ∀ t, it f (t + 1) a = none := fun t => by show (f a).bind _ = none; rw [hf]; rfl
      simp only [Option.elim, orFin, List.any_map, Function.comp_def, hz]
      simp
    | some v =>
      have hs : ∀ t, it f (t + 1 + 1) a = it f (t + 1) v := fun t => by show (f a).bind _ = _; rw [hf]; rfl
      by_cases hv : v = b
      · subst hv
        simp only [Option.elim, if_true, orFin, decide_true, Bool.true_or]
      · have hd : decide (some v = some b) = false := by simpa using hv
        simp only [Option.elim, if_neg hv, hd, Bool.false_or]
        have := ih v (by rw [← hs]; exact h)
        rw [List.findSome?_map, List.any_map]
        simp only [Function.comp_def, Nat.succ_eq_add_one, hs]
        rw [← List.range_succ_eq_map]
        exact this

theorem leads_prog (p : List Link) (hp : Ranked (nx p)) (hl : p.length ≤ maxLen) (a b : Int) :
    network_leads_M [.rm 3 ((nextV p).map fun x => x.fst) ((nextV p).map fun x => x.snd), .int .i64 a, .int .i64 b] = some (.bool (leadsB p a b (p.length + 1))) := by
  have hz : ((nextV p).map fun x => x.fst).zip ((nextV p).map fun x => x.snd) = nextV p := by
    generalize nextV p = m
    induction m with
    | nil => rfl
    | cons x m ih => simp only [List.map_cons, List.zip_cons_cons, ih]
  simp only [network_leads_M, network_leads, mapCase, if_true, asInt, bind_some', hz, nextV_look, nextV_has]
  unfold leadsB
  rw [← chain_scan (nx p) b p.length a (it_ends hp (by omega) a)]
  refine loop_scan' (fun t => (PV.rm 3 ((nextV p).map fun x => x.fst) ((nextV p).map fun x => x.snd), b, (it (nx p) (t + 1) a).getD 0, (it (nx p) (t + 1) a).isSome, ())) p.length _ (fun t ht rec => ?_) (fun rec => ?_) (by have := rounds_gt; omega) ?_
  · unfold network_leads_L2 badC
    dsimp only
    rw [it_tail (nx p) (t + 1) a]
    cases hv : it (nx p) (t + 1) a with
    | none => rfl
    | some v =>
      simp only [Option.isSome_some, Option.getD_some, if_true, beq_d, decide_eq_true_eq, Option.elim]
      by_cases hvb : v = b
      · rw [if_pos hvb, if_pos hvb]; rfl
      · rw [if_neg hvb, if_neg hvb]
        simp only [mapCase, if_true, hz, nextV_look, nextV_has, asInt, bind_some', orFin, Option.bind_some]
  · unfold network_leads_L2
    dsimp only
    rw [it_ends hp (by omega)]
    rfl
  · show (_, b, (it (nx p) 1 a).getD 0, (it (nx p) 1 a).isSome, ()) = _
    have : it (nx p) 1 a = nx p a := by show (nx p a).bind _ = _; cases nx p a <;> rfl
    rw [this]

/-! ### what is wrong with a link -/
def callsOf (runs : List Run) (a : Int) : List Kall := ((runs[a.toNat]?).map Run.calls).getD []
def stopOf (cs : List Kall) (c : Int) : Int := ((cs[c.toNat]?).map Kall.stop).getD 0
def lnkB (x : Link) (R : Int) : Bool := !(decide (x.a ≥ 0) && decide (x.a < R)) || !(decide (x.b ≥ 0) && decide (x.b < R)) || decide (x.a = x.b)
def callB (x : Link) (A B : Int) : Bool := !(decide (x.ac ≥ 0) && decide (x.ac < A)) || !(decide (x.bc ≥ 0) && decide (x.bc < B))
def stayB (p : List Link) (x : Link) (A : Int) : Bool := x.stay && (!decide (x.ac + 1 = A) || !decide (x.bc = 0) || (nx p x.a).isSome || decide (x.b ∈ intoL p) || leadsB p x.b x.a (p.length + 1))
def linkErr (runs : List Run) (l : List Link) (k : Nat) : Int := match l[k]? with
  | none => 0
  | some x => if lnkB x runs.length = true then 9 else if callB x (callsOf runs x.a).length (callsOf runs x.b).length = true then 9
    else if stopOf (callsOf runs x.a) x.ac ≠ stopOf (callsOf runs x.b) x.bc then 13 else if stayB (l.take k) x (callsOf runs x.a).length = true then 19
    else if linkKey x ∈ (l.map linkKey).take k then 6 else 0
def linksRes (runs : List Run) (l : List Link) : Int × Int := if l.length > 1024 then (0, 5) else scanE (linkErr runs l) l.length

theorem links_good (runs : List Run) (l : List Link) (k : Nat) (hk : k ≤ l.length) (h : ∀ j, j < k → linkErr runs l j = 0) : Ranked (nx (l.take k)) ∧ ∀ x ∈ l.take k, 0 ≤ x.a := by
  induction k with
  | zero => rw [List.take_zero]; exact ⟨ranked_nil, fun x hx => by cases hx⟩
  | succ k ih =>
    have hk' : k < l.length := by omega
    obtain ⟨h1, h2⟩ := ih (by omega) fun j hj => h j (by omega)
    have hz := h k (by omega)
    unfold linkErr at hz
    rw [List.getElem?_eq_getElem hk'] at hz
    simp only at hz
    have hr : lnkB l[k] runs.length = false := by
      cases hr : lnkB l[k] runs.length with
      | false => rfl
      | true => rw [hr, if_pos rfl] at hz; cases hz
    have hs : stayB (l.take k) l[k] (callsOf runs l[k].a).length = false := by
      cases hs : stayB (l.take k) l[k] (callsOf runs l[k].a).length with
      | false => rfl
      | true =>
        rw [hs] at hz
        split at hz
        · cases hz
        · split at hz
          · cases hz
          · split at hz
            · cases hz
            · rw [if_pos rfl] at hz; cases hz
    unfold lnkB at hr
    simp only [Bool.or_eq_false_iff, Bool.not_eq_false', Bool.and_eq_true, decide_eq_true_eq, decide_eq_false_iff_not] at hr
    rw [List.take_succ_eq_append_getElem hk']
    refine ⟨ranked_snoc h1 l[k] ?_, fun x hx => ?_⟩
    · unfold stayB at hs
      cases hst : l[k].stay with
      | false => exact Or.inl rfl
      | true =>
        rw [hst, Bool.true_and] at hs
        simp only [Bool.or_eq_false_iff] at hs
        refine Or.inr ⟨hr.2, ?_, hs.2⟩
        have := hs.1.1.2
        cases hn : nx (l.take k) l[k].a with
        | none => rfl
        | some w => rw [hn] at this; cases this
    · rcases List.mem_append.1 hx with hx | hx
      · exact h2 x hx
      · rw [List.mem_singleton] at hx
        subst hx; exact hr.1.1.1

theorem idx_runs (runs : List Run) (a : Int) (h : 0 ≤ a ∧ a < (runs.length : Int)) : ∃ r ∈ runs, idxP (runs.map Run.pv) a = some r.pv ∧ callsOf runs a = r.calls := by
  obtain ⟨n, rfl⟩ := Int.eq_ofNat_of_zero_le h.1
  have hn : n < runs.length := by omega
  refine ⟨runs[n], List.getElem_mem hn, ?_, ?_⟩
  · rw [idxP_nat, List.getElem?_map, List.getElem?_eq_getElem hn]; rfl
  · unfold callsOf
    rw [Int.toNat_natCast, List.getElem?_eq_getElem hn]; rfl
theorem idx_calls (cs : List Kall) (c : Int) (h : 0 ≤ c ∧ c < (cs.length : Int)) : ∃ r, idxP (cs.map Kall.pv) c = some r ∧ cell r 0 = .int .i64 (stopOf cs c) := by
  obtain ⟨n, rfl⟩ := Int.eq_ofNat_of_zero_le h.1
  have hn : n < cs.length := by omega
  refine ⟨cs[n].pv, ?_, ?_⟩
  · rw [idxP_nat, List.getElem?_map, List.getElem?_eq_getElem hn]; rfl
  · unfold stopOf
    rw [Int.toNat_natCast, List.getElem?_eq_getElem hn]; rfl
end Go.Ab.Tt

namespace Go.Ab.Tt
set_option maxRecDepth 100000
set_option linter.unusedVariables false
set_option linter.unusedSimpArgs false

theorem callsOf_len {runs : List Run} (h : ∀ y ∈ runs, y.Ok) (a : Int) : (callsOf runs a).length ≤ maxLen := by
  unfold callsOf
  cases hr : runs[a.toNat]? with
  | none => simp
  | some r => exact (h r (List.mem_of_getElem? hr)).calls.1

theorem links_round (N : Network) (runs : List Run) (hr : ∀ y ∈ runs, y.Ok) (l : List Link) (hl : l.length ≤ maxLen) (k : Nat) (hk : k < l.length) (hpre : ∀ j, j < k → linkErr runs l j = 0) (rec : TY0 → Option PV) :
    network_checkLinks_L1 (l.map Link.pv, (l.length : Int), (k : Int), N.stops.map Stop.pv, N.routes.map Route.pv, runs.map Run.pv, l.map Link.pv, N.paths.map Path.pv, N.prods.map Prdt.pv, N.disc, N.within, N.cap, 0, 0, 0, nextV (l.take k), seen intPV (intoL (l.take k)), seen lkPV ((l.map linkKey).take k), ()) rec
      = orFin (if linkErr runs l k = 0 then none else some (some (r3 3 k (linkErr runs l k)))) (rec (l.map Link.pv, (l.length : Int), ((k + 1 : Nat) : Int), N.stops.map Stop.pv, N.routes.map Route.pv, runs.map Run.pv, l.map Link.pv, N.paths.map Path.pv, N.prods.map Prdt.pv, N.disc, N.within, N.cap, 0, 0, 0, nextV (l.take (k + 1)), seen intPV (intoL (l.take (k + 1))), seen lkPV ((l.map linkKey).take (k + 1)), ())) := by
  have hm := maxLen_lt
  have h1 : decide ((k : Int) < (l.length : Int)) = true := by simp; omega
  obtain ⟨hrank, _⟩ := links_good runs l k (by omega) hpre
  have hlen : (l.take k).length = k := by simp; omega
  have hleads := leads_prog (l.take k) hrank (by omega) l[k].b l[k].a
  have hput : mput (.agg [.int .i64 l[k].a, .int .i64 l[k].ac, .int .i64 l[k].b, .int .i64 l[k].bc]) (.bool true) (seen lkPV ((l.map linkKey).take k)) = _ := seen_put lk_key (linkKey l[k]) ((l.map linkKey).take k)
  have hlook : mlook (.agg [.int .i64 l[k].a, .int .i64 l[k].ac, .int .i64 l[k].b, .int .i64 l[k].bc]) (.bool false) (seen lkPV ((l.map linkKey).take k)) = _ := seen_look lk_key (linkKey l[k]) ((l.map linkKey).take k)
  have hput2 : mput (.int .i64 l[k].b) (.bool true) (seen intPV (intoL (l.take k))) = _ := seen_put (key := intPV) int_key l[k].b (intoL (l.take k))
  have hlook2 : mlook (.int .i64 l[k].b) (.bool false) (seen intPV (intoL (l.take k))) = _ := seen_look (key := intPV) int_key l[k].b (intoL (l.take k))
  have hsn : l.take (k + 1) = l.take k ++ [l[k]] := List.take_succ_eq_append_getElem hk
  unfold network_checkLinks_L1
  dsimp only
  rw [if_pos h1, idxP_nat, List.getElem?_map, List.getElem?_eq_getElem hk, hsn, nextV_snoc, intoL_snoc, ids_snoc linkKey l k hk]
  simp only [Option.map_some, bind_some', link0, link1, link2, link3, link4, asInt, asBool, if_true, List.length_map, nwithin_ok, bif_or', beq_d]
  unfold linkErr
  rw [List.getElem?_eq_getElem hk]
  simp only
  have hR : (!(decide (l[k].a ≥ 0) && decide (l[k].a < (runs.length : Int))) || !(decide (l[k].b ≥ 0) && decide (l[k].b < (runs.length : Int))) || decide (l[k].a = l[k].b)) = lnkB l[k] runs.length := rfl
  rw [hR]
  cases hb : lnkB l[k] runs.length with
  | true => simp only [if_true, of_ok, bind_some', r3A, r30, r31, r32]; rfl
  | false =>
    unfold lnkB at hb
    simp only [Bool.or_eq_false_iff, Bool.not_eq_false', Bool.and_eq_true, decide_eq_true_eq, decide_eq_false_iff_not] at hb
    obtain ⟨ra, hra, hia, hca⟩ := idx_runs runs l[k].a ⟨hb.1.1.1, hb.1.1.2⟩
    obtain ⟨rb, hrb, hib, hcb⟩ := idx_runs runs l[k].b ⟨hb.1.2.1, hb.1.2.2⟩
    have hA := callsOf_len hr l[k].a
    rw [hia, hib]
    simp only [bind_some', run7, asSl, if_true, List.length_map, ← hca, ← hcb, nwithin_ok, asBool, bif_or']
    have hC : (!(decide (l[k].ac ≥ 0) && decide (l[k].ac < ((callsOf runs l[k].a).length : Int))) || !(decide (l[k].bc ≥ 0) && decide (l[k].bc < ((callsOf runs l[k].b).length : Int)))) = callB l[k] (callsOf runs l[k].a).length (callsOf runs l[k].b).length := rfl
    rw [hC]
    cases hcb2 : callB l[k] (callsOf runs l[k].a).length (callsOf runs l[k].b).length with
    | true => simp only [if_true, of_ok, bind_some', r3A, r30, r31, r32]; rfl
    | false =>
      unfold callB at hcb2
      simp only [Bool.or_eq_false_iff, Bool.not_eq_false', Bool.and_eq_true, decide_eq_true_eq] at hcb2
      obtain ⟨ka, hka, hsa⟩ := idx_calls (callsOf runs l[k].a) l[k].ac hcb2.1
      obtain ⟨kb, hkb, hsb⟩ := idx_calls (callsOf runs l[k].b) l[k].bc hcb2.2
      have hw : IntKind.i64.wrap (l[k].ac + 1) = l[k].ac + 1 := wrap_in (by omega) (by omega)
      simp only [Bool.false_eq_true, if_false, hka, hkb, bind_some', hsa, hsb, nextV_look, nextV_has, hlook, hlook2, hput, hput2, asInt, asBool, if_true, hleads, hw, hlen, bif_or', bif_and, bne_d, of_ok, r3A, r30, r31, r32, wrap_nat (show k < 9223372036854775807 by omega)]
      have hS : (l[k].stay && (!decide (l[k].ac + 1 = ((callsOf runs l[k].a).length : Int)) || !decide (l[k].bc = 0) || (nx (l.take k) l[k].a).isSome || decide (l[k].b ∈ intoL (l.take k)) || leadsB (l.take k) l[k].b l[k].a (k + 1))) = stayB (l.take k) l[k] (callsOf runs l[k].a).length := by unfold stayB; rw [hlen]
      rw [hS]
      generalize stayB (l.take k) l[k] (callsOf runs l[k].a).length = S
      by_cases hst : stopOf (callsOf runs l[k].a) l[k].ac = stopOf (callsOf runs l[k].b) l[k].bc
      · simp only [hst, decide_true, Bool.not_true, Bool.false_eq_true, if_false, ne_eq, not_true]
        cases S with
        | true => rfl
        | false =>
          by_cases hmem : linkKey l[k] ∈ (l.map linkKey).take k
          · simp only [hmem, decide_true, if_true, Bool.false_eq_true, if_false]; rfl
          · simp only [hmem, decide_false, if_true, Bool.false_eq_true, if_false]
            cases l[k].stay <;> rfl
      · simp only [hst, decide_false, Bool.not_false, if_true, ne_eq, not_false_eq_true]; rfl

theorem checkLinks_ok (N : Network) (hr : N.runs.length ≤ maxLen ∧ ∀ y ∈ N.runs, y.Ok) (hl : N.links.length ≤ maxLen) : network_checkLinks_M [N.pv] = some (prt 3 (linksRes N.runs N.links)) := by
  have hm := maxLen_lt
  simp only [network_checkLinks_M, network_checkLinks, netA, net0, net1, net2, net3, net4, net5, net6, net7, net8, bind_some', List.length_map]
  generalize hl' : N.links = l at hl ⊢
  generalize hr' : N.runs = runs at hr ⊢
  unfold linksRes
  by_cases h64 : l.length > 1024
  · rw [if_pos (by simp; omega), if_pos h64]; rfl
  · rw [if_neg (by simp; omega), if_neg h64]
    have hR : some (prt 3 (scanE (linkErr runs l) l.length)) = if (scanE (linkErr runs l) l.length).2 = 0 then some (r3 0 0 0) else some (r3 3 (scanE (linkErr runs l) l.length).1 (scanE (linkErr runs l) l.length).2) := by
      unfold prt
      by_cases h : (scanE (linkErr runs l) l.length).2 = 0
      · rw [if_pos h, if_pos h]
      · rw [if_neg h, if_neg h]
    rw [hR, ← scanE_gen (linkErr runs l) l.length (fun i e => r3 3 i e)]
    refine loop_scan_pre (fun k => (l.map Link.pv, (l.length : Int), (k : Int), N.stops.map Stop.pv, N.routes.map Route.pv, runs.map Run.pv, l.map Link.pv, N.paths.map Path.pv, N.prods.map Prdt.pv, N.disc, N.within, N.cap, 0, 0, 0, nextV (l.take k), seen intPV (intoL (l.take k)), seen lkPV ((l.map linkKey).take k), ())) l.length _ (fun k hk hpre rec => links_round N runs hr.2 l hl k hk (fun j hj => ?_) rec) (fun _ rec => ?_) (by have := rounds_gt; omega) rfl
    · have := hpre j hj
      by_cases h0 : linkErr runs l j = 0
      · exact h0
      · rw [if_neg h0] at this; cases this
    · unfold network_checkLinks_L1
      dsimp only
      rw [if_neg (by simp)]
      rfl

/-! ### the reference -/
end Go.Ab.Tt

namespace Go.Ab.Tt
set_option maxRecDepth 100000
set_option linter.unusedVariables false
set_option linter.unusedSimpArgs false

def netRes (N : Network) : Int × Int × Int :=
  if (stopRes N.stops).2 = 0 then
    if (routeRes N.routes).2 = 0 then
      if (runsRes N.runs N.stops.length N.routes.length).2 = 0 then
        if (linksRes N.runs N.links).2 = 0 then
          if (pathsRes N.paths N.stops.length).2 = 0 then
            if (fareRes N.prods N.disc N.within N.cap).2 = 0 then (0, 0, 0) else (5, fareRes N.prods N.disc N.within N.cap)
          else (4, pathsRes N.paths N.stops.length)
        else (3, linksRes N.runs N.links)
      else (2, runsRes N.runs N.stops.length N.routes.length)
    else (1, routeRes N.routes)
  else (0, stopRes N.stops)
def chkPV (x : Int × Int × Int) : PV := .tup [.int .i64 x.1, .int .i64 x.2.1, .int .i64 x.2.2]

theorem r3E (p i e : Int) : PV.agg [cell (r3 p i e) 0, cell (r3 p i e) 1, cell (r3 p i e) 2] = r3 p i e := rfl
theorem r3F (p i e : Int) : PV.agg [.int .i64 p, .int .i64 i, .int .i64 e] = r3 p i e := rfl
theorem first2 (p i e q j f : Int) : network_first_M [.rs 3 [r3 p i e, r3 q j f]] = some (if e = 0 then (if f = 0 then r3 0 0 0 else r3 q j f) else r3 p i e) := by
  simp only [network_first_M, network_first, asSl, if_true, bind_some']
  have h0 := loop_scan' (body := network_first_L1) (fun k => ([r3 p i e, r3 q j f], (2 : Int), (k : Int), 0, 0, 0, ())) 2 (fun k => if k = 0 then (if e = 0 then none else some (some (r3 p i e))) else (if f = 0 then none else some (some (r3 q j f)))) (fin := some (r3 0 0 0)) (fun k hk rec => ?_) (fun rec => ?_) (by decide) (s0 := ([r3 p i e, r3 q j f], (2 : Int), 0, 0, 0, 0, ())) rfl
  · refine h0.trans ?_
    have : List.range 2 = [0, 1] := rfl
    rw [this]
    by_cases he : e = 0
    · by_cases hf : f = 0 <;> simp [he, hf, orFin]
    · simp [he, orFin]
  · have h2 : k = 0 ∨ k = 1 := by omega
    rcases h2 with rfl | rfl
    · unfold network_first_L1
      dsimp only
      rw [if_pos (by simp), idxP_nat]
      simp only [List.getElem?_cons_zero, bind_some', r32, asInt, if_true, bne_d, r3E, wrap_nat (show 0 < 9223372036854775807 by omega)]
      by_cases he : e = 0
      · simp only [he, decide_true, Bool.not_true, Bool.false_eq_true, if_false, if_true]; rfl
      · simp only [he, decide_false, Bool.not_false, if_false, if_true]; rfl
    · unfold network_first_L1
      dsimp only
      rw [if_pos (by simp), idxP_nat]
      simp only [List.getElem?_cons_succ, List.getElem?_cons_zero, bind_some', r32, asInt, if_true, bne_d, r3E, wrap_nat (show 1 < 9223372036854775807 by omega)]
      by_cases he : f = 0
      · simp only [he, decide_true, Bool.not_true, Bool.false_eq_true, if_false, if_true]; rfl
      · simp only [he, decide_false, Bool.not_false, if_false, if_true]; rfl
  · unfold network_first_L1
    dsimp only
    rw [if_neg (by simp)]
    rfl
theorem prt_if (p : Int) (x : Int × Int) : prt p x = if x.2 = 0 then r3 0 0 0 else r3 p x.1 x.2 := rfl
theorem stops_few {l : List Stop} (h : (stopRes l).2 = 0) : l.length ≤ 64 := by
  unfold stopRes at h
  by_cases h64 : l.length > 64
  · rw [if_pos h64] at h; cases h
  · omega
theorem beq_i (a b : Int) : (a == b) = decide (a = b) := beq_d a b

theorem check_prog (N : Network) (h : N.Ok) (hp : N.paths.length ≤ 4096) : network_Check_M [N.pv] = some (chkPV (netRes N)) := by
  have hs := stop_prog N.stops h.stops
  have hr := route_prog N.routes h.routes
  have hu := checkRuns_ok N h.runs
  have hl := checkLinks_ok N h.runs h.links.1
  have hf := fares_prog N.prods N.disc N.within N.cap h.prods
  unfold faresPV at hf
  simp only [network_Check_M, network_Check, netA, net0, net1, net2, net3, net4, net5, net6, net7, net8, bind_some', netE]
  simp only [hs, hr, hf, hu, hl, bind_some', res, asTup, List.length_cons, List.length_nil, Nat.reduceAdd, if_true, List.getD_cons_zero, List.getD_cons_succ, of_ok, r3A, r3F, first2]
  unfold netRes
  by_cases h1 : (stopRes N.stops).2 = 0
  · have hpa := checkPaths_ok N (stops_few h1) hp
    simp only [hpa, bind_some', h1, if_true]
    by_cases h2 : (routeRes N.routes).2 = 0
    · simp only [h2, if_true]
      rw [prt_if 2, prt_if 3, prt_if 4]
      by_cases h3 : (runsRes N.runs N.stops.length N.routes.length).2 = 0
      · simp only [h3, if_true]
        by_cases h4 : (linksRes N.runs N.links).2 = 0
        · simp only [h4, if_true]
          by_cases h5 : (pathsRes N.paths N.stops.length).2 = 0
          · simp only [h5, if_true]
            by_cases h6 : (fareRes N.prods N.disc N.within N.cap).2 = 0
            · simp only [h6, if_true, r3A, r3F, r30, r31, r32, asInt, bind_some', first2, beq_i, decide_true, decide_false, Bool.false_eq_true, chkPV]
            · simp only [h6, if_true, if_false, r3A, r3F, r30, r31, r32, asInt, bind_some', first2, beq_i, decide_true, decide_false, Bool.false_eq_true, chkPV]
          · simp only [h5, if_true, if_false, r3A, r3F, r30, r31, r32, asInt, bind_some', first2, beq_i, decide_true, decide_false, Bool.false_eq_true, chkPV]
        · simp only [h4, if_true, if_false, r3A, r3F, r30, r31, r32, asInt, bind_some', first2, beq_i, decide_true, decide_false, Bool.false_eq_true, chkPV]
      · simp only [h3, if_true, if_false, r3A, r3F, r30, r31, r32, asInt, bind_some', first2, beq_i, decide_true, decide_false, Bool.false_eq_true, chkPV]
    · simp only [h2, if_true, if_false, r3A, r3F, r30, r31, r32, asInt, bind_some', first2, beq_i, decide_true, decide_false, Bool.false_eq_true, chkPV]
  · simp only [h1, if_true, if_false, r3A, r3F, r30, r31, r32, asInt, bind_some', first2, beq_i, decide_true, decide_false, Bool.false_eq_true, chkPV]

/-! ### the reference -/
end Go.Ab.Tt

namespace Go.Ab.Tt
set_option maxRecDepth 100000
set_option linter.unusedVariables false
set_option linter.unusedSimpArgs false

/-! ### light networks -/
def lightB (N : Network) : Bool := !(decide ((N.stops.length : Int) > 66) || decide ((N.routes.length : Int) > 66) || decide ((N.runs.length : Int) > 20) || decide ((N.links.length : Int) > 40) || decide ((N.paths.length : Int) > 200) || decide ((N.prods.length : Int) > 20)) && !((List.range N.runs.length).any fun k => (N.runs[k]?).elim false fun r => decide ((r.calls.length : Int) > 40))
theorem light_ok (N : Network) (hr : N.runs.length ≤ maxLen) : law26_light_M [N.pv] = some (.bool (lightB N)) := by
  have hm := maxLen_lt
  simp only [law26_light_M, law26_light, netA, net0, net1, net2, net3, net4, net5, net6, net7, net8, bind_some', bif_or', List.length_map]
  unfold lightB
  generalize (decide ((N.stops.length : Int) > 66) || decide ((N.routes.length : Int) > 66) || decide ((N.runs.length : Int) > 20) || decide ((N.links.length : Int) > 40) || decide ((N.paths.length : Int) > 200) || decide ((N.prods.length : Int) > 20)) = c
  cases c with
  | true => rfl
  | false =>
    simp only [Bool.false_eq_true, if_false, Bool.not_false, Bool.true_and]
    have hrun : lpS.run law26_light_L1 ((N.runs.length : Int), 0, N.stops.map Stop.pv, N.routes.map Route.pv, N.runs.map Run.pv, N.links.map Link.pv, N.paths.map Path.pv, N.prods.map Prdt.pv, N.disc, N.within, N.cap, ()) = if ((List.range N.runs.length).any fun k => (N.runs[k]?).elim false fun r => decide ((r.calls.length : Int) > 40)) = true then some (PV.bool false) else some (PV.bool true) := by
      refine dup_scan (fun k => ((N.runs.length : Int), (k : Int), N.stops.map Stop.pv, N.routes.map Route.pv, N.runs.map Run.pv, N.links.map Link.pv, N.paths.map Path.pv, N.prods.map Prdt.pv, N.disc, N.within, N.cap, ())) N.runs.length _ (fun k hk rec => ?_) (fun rec => ?_) (by have := rounds_gt; omega) rfl
      · have h1 : decide ((k : Int) < (N.runs.length : Int)) = true := by simp; omega
        unfold law26_light_L1
        dsimp only
        rw [if_pos h1, idxP_nat, List.getElem?_map, List.getElem?_eq_getElem hk]
        simp only [Option.map_some, bind_some', run7, asSl, if_true, List.length_map, wrap_nat (show k < 9223372036854775807 by omega), Option.elim]
        rfl
      · unfold law26_light_L1
        dsimp only
        rw [if_neg (by simp)]
    rw [hrun]
    cases (List.range N.runs.length).any fun k => (N.runs[k]?).elim false fun r => decide ((r.calls.length : Int) > 40) <;> rfl
/-! ### the horizon -/
def arr0 (r : Run) : Int := ((r.calls[0]?).map Kall.arr).getD 0
def depL (r : Run) : Int := ((r.calls[r.calls.length - 1]?).map Kall.dep).getD 0
def hstep (st : Int × Int × Bool) (r : Run) : Int × Int × Bool :=
  if r.canc = true then st else if st.2.2 = false then (arr0 r, depL r, true) else (if arr0 r < st.1 then arr0 r else st.1, if depL r > st.2.1 then depL r else st.2.1, st.2.2)
def hznRes (N : Network) : Int × Int × Bool := if (netRes N).2.2 = 0 then N.runs.foldl hstep (0, 0, false) else (0, 0, false)
def hznPV (x : Int × Int × Bool) : PV := .tup [.int .i64 x.1, .int .i64 x.2.1, .bool x.2.2]

theorem runs_valid {N : Network} (h : (netRes N).2.2 = 0) : ∀ k, k < N.runs.length → runErr N.runs N.stops.length N.routes.length k = 0 := by
  unfold netRes at h
  by_cases h1 : (stopRes N.stops).2 = 0
  · rw [if_pos h1] at h
    by_cases h2 : (routeRes N.routes).2 = 0
    · rw [if_pos h2] at h
      by_cases h3 : (runsRes N.runs N.stops.length N.routes.length).2 = 0
      · unfold runsRes at h3
        by_cases h64 : N.runs.length > 1024
        · rw [if_pos h64] at h3; cases h3
        · rw [if_neg h64] at h3
          exact (scanE_zero _ _).1 h3
      · rw [if_neg h3] at h; exact absurd h h3
    · rw [if_neg h2] at h; exact absurd h h2
  · rw [if_neg h1] at h; exact absurd h h1
theorem calls_valid {N : Network} (h : (netRes N).2.2 = 0) : ∀ r ∈ N.runs, (callRes r.calls N.stops.length 0 3155932800).2 = 0 := by
  intro r hr
  obtain ⟨k, hk, rfl⟩ := List.getElem_of_mem hr
  have := runs_valid h k hk
  unfold runErr at this
  rw [List.getElem?_eq_getElem hk] at this
  simp only at this
  by_cases hc : (callRes N.runs[k].calls N.stops.length 0 3155932800).2 = 0
  · exact hc
  · rw [if_neg hc] at this
    split at this
    · cases this
    · split at this
      · cases this
      · split at this
        · cases this
        · split at this
          · cases this
          · exact absurd this hc
theorem callRes_len {l : List Kall} {n a b : Int} (h : (callRes l n a b).2 = 0) : 2 ≤ l.length ∧ l.length ≤ 32 := by
  unfold callRes at h
  by_cases hc : (decide ((l.length : Int) < 2) || decide ((l.length : Int) > 32)) = true
  · rw [if_pos hc] at h; cases h
  · simp only [Bool.or_eq_true, decide_eq_true_eq, not_or] at hc; omega
theorem horizon_ok (N : Network) (h : N.Ok) (hp : N.paths.length ≤ 4096) : network_Horizon_M [N.pv] = some (hznPV (hznRes N)) := by
  have hm := maxLen_lt
  have hc := check_prog N h hp
  simp only [network_Horizon_M, network_Horizon, netA, net0, net1, net2, net3, net4, net5, net6, net7, net8, bind_some', netE, hc, List.length_map]
  simp only [chkPV, asTup, List.length_cons, List.length_nil, Nat.reduceAdd, if_true, List.getD_cons_zero, List.getD_cons_succ, asInt, bind_some', bne_d]
  unfold hznRes
  by_cases hv : (netRes N).2.2 = 0
  · rw [if_neg (by simp [hv]), if_pos hv]
    have hcv := calls_valid hv
    have hl := h.runs.1
    generalize N.runs = l at hcv hl ⊢
    refine loop_until (fun k => (((l.take k).foldl hstep (0, 0, false)).1, ((l.take k).foldl hstep (0, 0, false)).2.1, ((l.take k).foldl hstep (0, 0, false)).2.2, l.map Run.pv, (l.length : Int), (k : Int), ())) l.length (fun k hk rec => ?_) (fun rec => ?_) (by have := rounds_gt; omega) rfl
    · have h1 : decide ((k : Int) < (l.length : Int)) = true := by simp; omega
      have hlen := callRes_len (hcv _ (List.getElem_mem hk))
      have hw : IntKind.i64.wrap ((l[k].calls.length : Int) - 1) = ((l[k].calls.length - 1 : Nat) : Int) := by rw [wrap_in (by omega) (by omega)]; omega
      have hA : idxP (l[k].calls.map Kall.pv) 0 = some (l[k].calls[0]'(by omega)).pv := by
        rw [show (0 : Int) = ((0 : Nat) : Int) from rfl, idxP_nat, List.getElem?_map, List.getElem?_eq_getElem (by omega)]; rfl
      have hD : idxP (l[k].calls.map Kall.pv) ((l[k].calls.length - 1 : Nat) : Int) = some (l[k].calls[l[k].calls.length - 1]'(by omega)).pv := by
        rw [idxP_nat, List.getElem?_map, List.getElem?_eq_getElem (by omega)]; rfl
      have h0 : arr0 l[k] = (l[k].calls[0]'(by omega)).arr := by unfold arr0; rw [List.getElem?_eq_getElem (by omega)]; rfl
      have h9 : depL l[k] = (l[k].calls[l[k].calls.length - 1]'(by omega)).dep := by unfold depL; rw [List.getElem?_eq_getElem (by omega)]; rfl
      unfold network_Horizon_L1
      dsimp only
      rw [if_pos h1, idxP_nat, List.getElem?_map, List.getElem?_eq_getElem hk, List.take_succ_eq_append_getElem hk, List.foldl_append]
      generalize (l.take k).foldl hstep (0, 0, false) = st
      simp only [Option.map_some, bind_some', run6, run7, asBool, asSl, if_true, List.length_map, hw, hA, hD, kall1, kall2, asInt, wrap_nat (show k < 9223372036854775807 by omega), List.foldl_cons, List.foldl_nil, ← h0, ← h9, ite_self]
      unfold hstep
      obtain ⟨a, b, f⟩ := st
      cases l[k].canc with
      | true => rfl
      | false => cases f <;> rfl
    · unfold network_Horizon_L1
      dsimp only
      rw [if_neg (by simp), List.take_length]
      rfl
  · rw [if_pos (by simp [hv]), if_neg hv]
    rfl

/-! ### the example -/
def exN : Network := ⟨[⟨[65], 0, false, 0⟩, ⟨[66], 0, false, 0⟩], [⟨[82], 0, false⟩], [⟨0, 0, 0, [116], 0, false, false, [⟨0, 100, 160, true, false⟩, ⟨1, 200, 200, false, true⟩]⟩], [], [], [], 0, 0, 0⟩
def exM : Network := ⟨[⟨[65], 0, false, 0⟩, ⟨[66], 0, false, 0⟩, ⟨[67], 0, false, 0⟩], [], [], [], [⟨0, 1, 60, false⟩, ⟨1, 2, 60, false⟩], [], 0, 0, 0⟩
theorem check_like (p : PV) (N : Network) (hA : asAgg 9 p = some ()) (h0 : asSl 4 (cell p 0) = some (N.stops.map Stop.pv)) (h1 : asSl 3 (cell p 1) = some (N.routes.map Route.pv)) (h2 : asSl 8 (cell p 2) = some (N.runs.map Run.pv)) (h3 : asSl 5 (cell p 3) = some (N.links.map Link.pv)) (h4 : asSl 4 (cell p 4) = some (N.paths.map Path.pv)) (h5 : asSl 6 (cell p 5) = some (N.prods.map Prdt.pv)) (h6 : asInt .i64 (cell p 6) = some N.disc) (h7 : asInt .i64 (cell p 7) = some N.within) (h8 : asInt .i64 (cell p 8) = some N.cap) :
    network_Check_M [p] = network_Check_M [N.pv] ∧ network_Horizon_M [p] = network_Horizon_M [N.pv] := by
  constructor
  · simp only [network_Check_M, network_Check, hA, h0, h1, h2, h3, h4, h5, h6, h7, h8, netA, net0, net1, net2, net3, net4, net5, net6, net7, net8, bind_some']
  · simp only [network_Horizon_M, network_Horizon, hA, h0, h1, h2, h3, h4, h5, h6, h7, h8, netA, net0, net1, net2, net3, net4, net5, net6, net7, net8, bind_some']
theorem exN_ok : exN.Ok where
  stops := ⟨by decide, fun y hy => by
    simp only [exN, List.mem_cons, List.not_mem_nil, or_false] at hy
    rcases hy with rfl | rfl <;> exact ⟨by decide, by decide, by decide⟩⟩
  routes := ⟨by decide, fun y hy => by
    simp only [exN, List.mem_cons, List.not_mem_nil, or_false] at hy
    subst hy; exact ⟨by decide, by decide⟩⟩
  runs := ⟨by decide, fun y hy => by
    simp only [exN, List.mem_cons, List.not_mem_nil, or_false] at hy
    subst hy
    refine ⟨by decide, by decide, by decide, by decide, by decide, by decide, fun z hz => ?_⟩
    simp only [List.mem_cons, List.not_mem_nil, or_false] at hz
    rcases hz with rfl | rfl <;> exact ⟨by decide, by decide, by decide⟩⟩
  links := ⟨by decide, fun y hy => by simp [exN] at hy⟩
  paths := ⟨by decide, fun y hy => by simp [exN] at hy⟩
  prods := ⟨by decide, fun y hy => by simp [exN] at hy⟩
  disc := by decide
  within := by decide
  cap := by decide
theorem exM_ok : exM.Ok where
  stops := ⟨by decide, fun y hy => by
    simp only [exM, List.mem_cons, List.not_mem_nil, or_false] at hy
    rcases hy with rfl | rfl | rfl <;> exact ⟨by decide, by decide, by decide⟩⟩
  routes := ⟨by decide, fun y hy => by simp [exM] at hy⟩
  runs := ⟨by decide, fun y hy => by simp [exM] at hy⟩
  links := ⟨by decide, fun y hy => by simp [exM] at hy⟩
  paths := ⟨by decide, fun y hy => by
    simp only [exM, List.mem_cons, List.not_mem_nil, or_false] at hy
    rcases hy with rfl | rfl <;> exact ⟨by decide, by decide, by decide⟩⟩
  prods := ⟨by decide, fun y hy => by simp [exM] at hy⟩
  disc := by decide
  within := by decide
  cap := by decide
theorem exN_res : netRes exN = (0, 0, 0) := by decide +kernel
theorem exM_res : netRes exM = (4, 0, 18) := by decide +kernel
theorem exN_hzn : hznRes exN = (100, 200, true) := by unfold hznRes; rw [exN_res]; rfl
def exPV : PV := .agg [.rs 4 [.agg [.str [65], .int .i64 0, .bool false, .int .i64 0], .agg [.str [66], .int .i64 0, .bool false, .int .i64 0]], .rs 3 [.agg [.str [82], .int .i64 0, .bool false]], .rs 8 [.agg [.int .i64 0, .int .i64 0, .int .i64 0, .str [116], .int .i64 0, .bool false, .bool false, .rs 5 [.agg [.int .i64 0, .int .i64 100, .int .i64 160, .bool true, .bool false], .agg [.int .i64 1, .int .i64 200, .int .i64 200, .bool false, .bool true]]]], .rs 0 [], .rs 0 [], .rs 0 [], .int .i64 0, .int .i64 0, .int .i64 0]
def exQV : PV := .agg [.rs 4 [.agg [.str [65], .int .i64 0, .bool false, .int .i64 0], .agg [.str [66], .int .i64 0, .bool false, .int .i64 0], .agg [.str [67], .int .i64 0, .bool false, .int .i64 0]], .rs 0 [], .rs 0 [], .rs 0 [], .rs 4 [.agg [.int .i64 0, .int .i64 1, .int .i64 60, .bool false], .agg [.int .i64 1, .int .i64 2, .int .i64 60, .bool false]], .rs 0 [], .int .i64 0, .int .i64 0, .int .i64 0]
theorem example_is : law26_example_M [] = some exPV := rfl
theorem exPV_A : asAgg 9 exPV = some () := rfl
theorem exPV_E : PV.agg [cell exPV 0, cell exPV 1, cell exPV 2, cell exPV 3, cell exPV 4, cell exPV 5, cell exPV 6, cell exPV 7, cell exPV 8] = exPV := rfl
theorem example_holds : law26_exampleHolds_M [] = some (.bool true) := by
  have e1 := check_like exPV exN rfl rfl rfl rfl rfl rfl rfl rfl rfl rfl
  have e2 := check_like exQV exM rfl rfl rfl rfl rfl rfl rfl rfl rfl rfl
  have c1 := check_prog exN exN_ok (by decide)
  have c2 := check_prog exM exM_ok (by decide)
  have c3 := horizon_ok exN exN_ok (by decide)
  rw [exN_res] at c1
  rw [exM_res] at c2
  rw [exN_hzn] at c3
  rw [← e1.1] at c1
  rw [← e1.2] at c3
  rw [← e2.1] at c2
  unfold exQV at c2
  simp only [law26_exampleHolds_M, law26_exampleHolds, example_is, bind_some', exPV_A, exPV_E, c1, c2, c3, chkPV, hznPV, asTup, List.length_cons, List.length_nil, Nat.reduceAdd, if_true, List.getD_cons_zero, List.getD_cons_succ, asInt, asBool]
  rfl

end Go.Ab.Tt

namespace Go.Ab.Tt
set_option maxRecDepth 100000
set_option linter.unusedVariables false
set_option linter.unusedSimpArgs false
theorem Stop.peq (x y : Stop) : peqL [cell x.pv 0, cell x.pv 1, cell x.pv 2, cell x.pv 3] [cell y.pv 0, cell y.pv 1, cell y.pv 2, cell y.pv 3] = decide (x = y) := by
  cases x; cases y
  rw [Bool.eq_iff_iff]
  simp [cell, Stop.pv, PV.cells, peqL, Ab.peq]
theorem Route.peq (x y : Route) : peqL [cell x.pv 0, cell x.pv 1, cell x.pv 2] [cell y.pv 0, cell y.pv 1, cell y.pv 2] = decide (x = y) := by
  cases x; cases y
  rw [Bool.eq_iff_iff]
  simp [cell, Route.pv, PV.cells, peqL, Ab.peq]
theorem Kall.peq (x y : Kall) : peqL [cell x.pv 0, cell x.pv 1, cell x.pv 2, cell x.pv 3, cell x.pv 4] [cell y.pv 0, cell y.pv 1, cell y.pv 2, cell y.pv 3, cell y.pv 4] = decide (x = y) := by
  cases x; cases y
  rw [Bool.eq_iff_iff]
  simp [cell, Kall.pv, PV.cells, peqL, Ab.peq]
theorem Link.peq (x y : Link) : peqL [cell x.pv 0, cell x.pv 1, cell x.pv 2, cell x.pv 3, cell x.pv 4] [cell y.pv 0, cell y.pv 1, cell y.pv 2, cell y.pv 3, cell y.pv 4] = decide (x = y) := by
  cases x; cases y
  rw [Bool.eq_iff_iff]
  simp [cell, Link.pv, PV.cells, peqL, Ab.peq]
theorem Path.peq (x y : Path) : peqL [cell x.pv 0, cell x.pv 1, cell x.pv 2, cell x.pv 3] [cell y.pv 0, cell y.pv 1, cell y.pv 2, cell y.pv 3] = decide (x = y) := by
  cases x; cases y
  rw [Bool.eq_iff_iff]
  simp [cell, Path.pv, PV.cells, peqL, Ab.peq]
theorem Prdt.peq (x y : Prdt) : peqL [cell x.pv 0, cell x.pv 1, cell x.pv 2, cell x.pv 3, cell x.pv 4, cell x.pv 5] [cell y.pv 0, cell y.pv 1, cell y.pv 2, cell y.pv 3, cell y.pv 4, cell y.pv 5] = decide (x = y) := by
  cases x; cases y
  rw [Bool.eq_iff_iff]
  simp [cell, Prdt.pv, PV.cells, peqL, Ab.peq]
theorem int_bne {a b : Nat} : ((a : Int) != (b : Int)) = !decide (a = b) := by
  rw [Bool.eq_iff_iff]; simp; omega
theorem if_dec {c : Prop} [Decidable c] : (if c then some (PV.bool true) else some (PV.bool false)) = some (PV.bool (decide c)) := by
  by_cases h : c <;> simp [h]
theorem slices_Equal_Stop_Stop_eq (a b : List Stop) (ha : a.length ≤ maxLen) : slices_Equal_Stop_Stop_M [.rs 4 (a.map Stop.pv), .rs 4 (b.map Stop.pv)] = some (.bool (decide (a = b))) := by
  have hm := maxLen_lt
  simp only [slices_Equal_Stop_Stop_M, slices_Equal_Stop_Stop, asSl, if_true, bind_some', List.length_map]
  by_cases h : a.length = b.length
  · rw [if_neg (by rw [int_bne]; simp [h])]
    refine (loop_scan' (fun k => (a.map Stop.pv, b.map Stop.pv, (a.length : Int), (k : Int), ())) a.length (fun k => if a[k]? = b[k]? then none else some (some (PV.bool false))) (fun k hk rec => ?_) (fin := some (PV.bool true)) (fun rec => ?_) (by have := rounds_gt; omega) rfl).trans ?_
    · have h1 : decide ((k : Int) < (a.length : Int)) = true := by simp; omega
      have hk' : k < b.length := by omega
      unfold slices_Equal_Stop_Stop_L1
      dsimp only
      try rw [List.length_map]
      rw [if_pos h1, idxP_nat, idxP_nat, List.getElem?_map, List.getElem?_map, List.getElem?_eq_getElem hk, List.getElem?_eq_getElem hk']
      simp only [Option.map_some, bind_some']
      rw [if_pos ⟨rfl, rfl⟩, Stop.peq, wrap_nat (by omega)]
      by_cases he : a[k] = b[k]
      · simp [he, orFin]
      · simp [he, orFin]
    · unfold slices_Equal_Stop_Stop_L1
      dsimp only
      rw [if_neg (by simp)]
    · exact (eq_scan a b h (some (PV.bool false)) (some (PV.bool true))).trans if_dec
  · rw [if_pos (by rw [int_bne]; simp [h])]
    have : a ≠ b := fun e => h (by rw [e])
    simp [this]
theorem slices_Equal_Route_Route_eq (a b : List Route) (ha : a.length ≤ maxLen) : slices_Equal_Route_Route_M [.rs 3 (a.map Route.pv), .rs 3 (b.map Route.pv)] = some (.bool (decide (a = b))) := by
  have hm := maxLen_lt
  simp only [slices_Equal_Route_Route_M, slices_Equal_Route_Route, asSl, if_true, bind_some', List.length_map]
  by_cases h : a.length = b.length
  · rw [if_neg (by rw [int_bne]; simp [h])]
    refine (loop_scan' (fun k => (a.map Route.pv, b.map Route.pv, (a.length : Int), (k : Int), ())) a.length (fun k => if a[k]? = b[k]? then none else some (some (PV.bool false))) (fun k hk rec => ?_) (fin := some (PV.bool true)) (fun rec => ?_) (by have := rounds_gt; omega) rfl).trans ?_
    · have h1 : decide ((k : Int) < (a.length : Int)) = true := by simp; omega
      have hk' : k < b.length := by omega
      unfold slices_Equal_Route_Route_L1
      dsimp only
      try rw [List.length_map]
      rw [if_pos h1, idxP_nat, idxP_nat, List.getElem?_map, List.getElem?_map, List.getElem?_eq_getElem hk, List.getElem?_eq_getElem hk']
      simp only [Option.map_some, bind_some']
      rw [if_pos ⟨rfl, rfl⟩, Route.peq, wrap_nat (by omega)]
      by_cases he : a[k] = b[k]
      · simp [he, orFin]
      · simp [he, orFin]
    · unfold slices_Equal_Route_Route_L1
      dsimp only
      rw [if_neg (by simp)]
    · exact (eq_scan a b h (some (PV.bool false)) (some (PV.bool true))).trans if_dec
  · rw [if_pos (by rw [int_bne]; simp [h])]
    have : a ≠ b := fun e => h (by rw [e])
    simp [this]
theorem slices_Equal_Call_Call_eq (a b : List Kall) (ha : a.length ≤ maxLen) : slices_Equal_Call_Call_M [.rs 5 (a.map Kall.pv), .rs 5 (b.map Kall.pv)] = some (.bool (decide (a = b))) := by
  have hm := maxLen_lt
  simp only [slices_Equal_Call_Call_M, slices_Equal_Call_Call, asSl, if_true, bind_some', List.length_map]
  by_cases h : a.length = b.length
  · rw [if_neg (by rw [int_bne]; simp [h])]
    refine (loop_scan' (fun k => (a.map Kall.pv, b.map Kall.pv, (a.length : Int), (k : Int), ())) a.length (fun k => if a[k]? = b[k]? then none else some (some (PV.bool false))) (fun k hk rec => ?_) (fin := some (PV.bool true)) (fun rec => ?_) (by have := rounds_gt; omega) rfl).trans ?_
    · have h1 : decide ((k : Int) < (a.length : Int)) = true := by simp; omega
      have hk' : k < b.length := by omega
      unfold slices_Equal_Call_Call_L1
      dsimp only
      try rw [List.length_map]
      rw [if_pos h1, idxP_nat, idxP_nat, List.getElem?_map, List.getElem?_map, List.getElem?_eq_getElem hk, List.getElem?_eq_getElem hk']
      simp only [Option.map_some, bind_some']
      rw [if_pos ⟨rfl, rfl⟩, Kall.peq, wrap_nat (by omega)]
      by_cases he : a[k] = b[k]
      · simp [he, orFin]
      · simp [he, orFin]
    · unfold slices_Equal_Call_Call_L1
      dsimp only
      rw [if_neg (by simp)]
    · exact (eq_scan a b h (some (PV.bool false)) (some (PV.bool true))).trans if_dec
  · rw [if_pos (by rw [int_bne]; simp [h])]
    have : a ≠ b := fun e => h (by rw [e])
    simp [this]
theorem slices_Equal_Link_Link_eq (a b : List Link) (ha : a.length ≤ maxLen) : slices_Equal_Link_Link_M [.rs 5 (a.map Link.pv), .rs 5 (b.map Link.pv)] = some (.bool (decide (a = b))) := by
  have hm := maxLen_lt
  simp only [slices_Equal_Link_Link_M, slices_Equal_Link_Link, asSl, if_true, bind_some', List.length_map]
  by_cases h : a.length = b.length
  · rw [if_neg (by rw [int_bne]; simp [h])]
    refine (loop_scan' (fun k => (a.map Link.pv, b.map Link.pv, (a.length : Int), (k : Int), ())) a.length (fun k => if a[k]? = b[k]? then none else some (some (PV.bool false))) (fun k hk rec => ?_) (fin := some (PV.bool true)) (fun rec => ?_) (by have := rounds_gt; omega) rfl).trans ?_
    · have h1 : decide ((k : Int) < (a.length : Int)) = true := by simp; omega
      have hk' : k < b.length := by omega
      unfold slices_Equal_Link_Link_L1
      dsimp only
      try rw [List.length_map]
      rw [if_pos h1, idxP_nat, idxP_nat, List.getElem?_map, List.getElem?_map, List.getElem?_eq_getElem hk, List.getElem?_eq_getElem hk']
      simp only [Option.map_some, bind_some']
      rw [if_pos ⟨rfl, rfl⟩, Link.peq, wrap_nat (by omega)]
      by_cases he : a[k] = b[k]
      · simp [he, orFin]
      · simp [he, orFin]
    · unfold slices_Equal_Link_Link_L1
      dsimp only
      rw [if_neg (by simp)]
    · exact (eq_scan a b h (some (PV.bool false)) (some (PV.bool true))).trans if_dec
  · rw [if_pos (by rw [int_bne]; simp [h])]
    have : a ≠ b := fun e => h (by rw [e])
    simp [this]
theorem slices_Equal_Footpath_Footpath_eq (a b : List Path) (ha : a.length ≤ maxLen) : slices_Equal_Footpath_Footpath_M [.rs 4 (a.map Path.pv), .rs 4 (b.map Path.pv)] = some (.bool (decide (a = b))) := by
  have hm := maxLen_lt
  simp only [slices_Equal_Footpath_Footpath_M, slices_Equal_Footpath_Footpath, asSl, if_true, bind_some', List.length_map]
  by_cases h : a.length = b.length
  · rw [if_neg (by rw [int_bne]; simp [h])]
    refine (loop_scan' (fun k => (a.map Path.pv, b.map Path.pv, (a.length : Int), (k : Int), ())) a.length (fun k => if a[k]? = b[k]? then none else some (some (PV.bool false))) (fun k hk rec => ?_) (fin := some (PV.bool true)) (fun rec => ?_) (by have := rounds_gt; omega) rfl).trans ?_
    · have h1 : decide ((k : Int) < (a.length : Int)) = true := by simp; omega
      have hk' : k < b.length := by omega
      unfold slices_Equal_Footpath_Footpath_L1
      dsimp only
      try rw [List.length_map]
      rw [if_pos h1, idxP_nat, idxP_nat, List.getElem?_map, List.getElem?_map, List.getElem?_eq_getElem hk, List.getElem?_eq_getElem hk']
      simp only [Option.map_some, bind_some']
      rw [if_pos ⟨rfl, rfl⟩, Path.peq, wrap_nat (by omega)]
      by_cases he : a[k] = b[k]
      · simp [he, orFin]
      · simp [he, orFin]
    · unfold slices_Equal_Footpath_Footpath_L1
      dsimp only
      rw [if_neg (by simp)]
    · exact (eq_scan a b h (some (PV.bool false)) (some (PV.bool true))).trans if_dec
  · rw [if_pos (by rw [int_bne]; simp [h])]
    have : a ≠ b := fun e => h (by rw [e])
    simp [this]
theorem slices_Equal_Product_Product_eq (a b : List Prdt) (ha : a.length ≤ maxLen) : slices_Equal_Product_Product_M [.rs 6 (a.map Prdt.pv), .rs 6 (b.map Prdt.pv)] = some (.bool (decide (a = b))) := by
  have hm := maxLen_lt
  simp only [slices_Equal_Product_Product_M, slices_Equal_Product_Product, asSl, if_true, bind_some', List.length_map]
  by_cases h : a.length = b.length
  · rw [if_neg (by rw [int_bne]; simp [h])]
    refine (loop_scan' (fun k => (a.map Prdt.pv, b.map Prdt.pv, (a.length : Int), (k : Int), ())) a.length (fun k => if a[k]? = b[k]? then none else some (some (PV.bool false))) (fun k hk rec => ?_) (fin := some (PV.bool true)) (fun rec => ?_) (by have := rounds_gt; omega) rfl).trans ?_
    · have h1 : decide ((k : Int) < (a.length : Int)) = true := by simp; omega
      have hk' : k < b.length := by omega
      unfold slices_Equal_Product_Product_L1
      dsimp only
      try rw [List.length_map]
      rw [if_pos h1, idxP_nat, idxP_nat, List.getElem?_map, List.getElem?_map, List.getElem?_eq_getElem hk, List.getElem?_eq_getElem hk']
      simp only [Option.map_some, bind_some']
      rw [if_pos ⟨rfl, rfl⟩, Prdt.peq, wrap_nat (by omega)]
      by_cases he : a[k] = b[k]
      · simp [he, orFin]
      · simp [he, orFin]
    · unfold slices_Equal_Product_Product_L1
      dsimp only
      rw [if_neg (by simp)]
    · exact (eq_scan a b h (some (PV.bool false)) (some (PV.bool true))).trans if_dec
  · rw [if_pos (by rw [int_bne]; simp [h])]
    have : a ≠ b := fun e => h (by rw [e])
    simp [this]
theorem sameCalls_eq (a b : List Kall) (ha : a.length ≤ maxLen) : ref26_SameCalls_M [.rs 5 (a.map Kall.pv), .rs 5 (b.map Kall.pv)] = some (.bool (decide (a = b))) := by
  have hm := maxLen_lt
  simp only [ref26_SameCalls_M, ref26_SameCalls, asSl, if_true, bind_some', List.length_map]
  by_cases h : a.length = b.length
  · rw [if_neg (by rw [int_bne]; simp [h])]
    refine (loop_scan' (fun k => (a.map Kall.pv, b.map Kall.pv, (k : Int), ())) a.length (fun k => if a[k]? = b[k]? then none else some (some (PV.bool false))) (fun k hk rec => ?_) (fin := some (PV.bool true)) (fun rec => ?_) (by have := rounds_gt; omega) rfl).trans ?_
    · have h1 : decide ((k : Int) < (a.length : Int)) = true := by simp; omega
      have hk' : k < b.length := by omega
      unfold ref26_SameCalls_L1
      dsimp only
      try rw [List.length_map]
      rw [if_pos h1, idxP_nat, idxP_nat, List.getElem?_map, List.getElem?_map, List.getElem?_eq_getElem hk, List.getElem?_eq_getElem hk']
      simp only [Option.map_some, bind_some']
      rw [if_pos ⟨rfl, rfl⟩, Kall.peq, wrap_nat (by omega)]
      by_cases he : a[k] = b[k]
      · simp [he, orFin]
      · simp [he, orFin]
    · unfold ref26_SameCalls_L1
      dsimp only
      rw [if_neg (by simp)]
    · exact (eq_scan a b h (some (PV.bool false)) (some (PV.bool true))).trans if_dec
  · rw [if_pos (by rw [int_bne]; simp [h])]
    have : a ≠ b := fun e => h (by rw [e])
    simp [this]
def fare4 (l : List Prdt) (d w c : Int) : PV := .agg [.rs 6 (l.map Prdt.pv), .int .i64 d, .int .i64 w, .int .i64 c]
theorem sameFares_eq (a b : List Prdt) (d1 w1 c1 d2 w2 c2 : Int) (ha : a.length ≤ maxLen) : ref26_SameFares_M [fare4 a d1 w1 c1, fare4 b d2 w2 c2] = some (.bool (decide (d1 = d2) && decide (w1 = w2) && decide (c1 = c2) && decide (a = b))) := by
  have hm := maxLen_lt
  have f0 : ∀ l d w c, asAgg 4 (fare4 l d w c) = some () := fun _ _ _ _ => rfl
  have f1 : ∀ l d w c, cell (fare4 l d w c) 0 = .rs 6 (l.map Prdt.pv) := fun _ _ _ _ => rfl
  have f2 : ∀ l d w c, cell (fare4 l d w c) 1 = .int .i64 d := fun _ _ _ _ => rfl
  have f3 : ∀ l d w c, cell (fare4 l d w c) 2 = .int .i64 w := fun _ _ _ _ => rfl
  have f4 : ∀ l d w c, cell (fare4 l d w c) 3 = .int .i64 c := fun _ _ _ _ => rfl
  simp only [ref26_SameFares_M, ref26_SameFares, f0, f1, f2, f3, f4, asSl, asInt, if_true, bind_some', List.length_map, int_bne, bne_d, bif_or']
  by_cases h : a.length = b.length
  · by_cases e1 : d1 = d2
    · by_cases e2 : w1 = w2
      · by_cases e3 : c1 = c2
        · rw [if_neg (by simp [h, e1, e2, e3])]
          simp only [e1, e2, e3, decide_true, Bool.true_and]
          refine (loop_scan' (fun k => ((k : Int), a.map Prdt.pv, d2, w2, c2, b.map Prdt.pv, d2, w2, c2, ())) a.length (fun k => if a[k]? = b[k]? then none else some (some (PV.bool false))) (fun k hk rec => ?_) (fin := some (PV.bool true)) (fun rec => ?_) (by have := rounds_gt; omega) rfl).trans ?_
          · have h1 : decide ((k : Int) < (a.length : Int)) = true := by simp; omega
            have hk' : k < b.length := by omega
            unfold ref26_SameFares_L1
            dsimp only
            try rw [List.length_map]
            rw [if_pos h1, idxP_nat, idxP_nat, List.getElem?_map, List.getElem?_map, List.getElem?_eq_getElem hk, List.getElem?_eq_getElem hk']
            simp only [Option.map_some, bind_some']
            rw [if_pos ⟨rfl, rfl⟩, Prdt.peq, wrap_nat (by omega)]
            by_cases he : a[k] = b[k]
            · simp [he, orFin]
            · simp [he, orFin]
          · unfold ref26_SameFares_L1
            dsimp only
            rw [if_neg (by simp)]
          · exact (eq_scan a b h (some (PV.bool false)) (some (PV.bool true))).trans if_dec
        · rw [if_pos (by simp [e3])]; simp [e3]
      · rw [if_pos (by simp [e2])]; simp [e2]
    · rw [if_pos (by simp [e1])]; simp [e1]
  · rw [if_pos (by have h' : ¬ ((a.length : Int) = (b.length : Int)) := by omega
                   simp [h'])]
    have : a ≠ b := fun e => h (by rw [e])
    simp [this]
theorem run_dec (x y : Run) : decide (x = y) = (decide (x.trip = y.trip) && decide (x.day = y.day) && decide (x.inst = y.inst) && decide (x.id = y.id) && decide (x.route = y.route) && decide (x.free = y.free) && decide (x.canc = y.canc) && decide (x.calls = y.calls)) := by
  cases x; cases y
  rw [Bool.eq_iff_iff]
  simp [and_assoc]
theorem sameRun_eq (x y : Run) (hx : x.calls.length ≤ maxLen) : network_sameRun_M [x.pv, y.pv] = some (.bool (decide (x = y))) := by
  have hc := slices_Equal_Call_Call_eq x.calls y.calls hx
  simp only [network_sameRun_M, network_sameRun, runA, run0, run1, run2, run3, run4, run5, run6, run7, asInt, asStr, asBool, asSl, if_true, bind_some', hc, bif_and, beq_d, run_dec]
theorem sameRuns_eq (a b : List Run) (ha : a.length ≤ maxLen) (hc : ∀ x ∈ a, x.calls.length ≤ maxLen) : ref26_SameRuns_M [.rs 8 (a.map Run.pv), .rs 8 (b.map Run.pv)] = some (.bool (decide (a = b))) := by
  have hm := maxLen_lt
  simp only [ref26_SameRuns_M, ref26_SameRuns, asSl, if_true, bind_some', List.length_map]
  by_cases h : a.length = b.length
  · rw [if_neg (by rw [int_bne]; simp [h])]
    refine (loop_scan' (fun k => (a.map Run.pv, b.map Run.pv, (k : Int), ())) a.length (fun k => if a[k]? = b[k]? then none else some (some (PV.bool false))) (fun k hk rec => ?_) (fin := some (PV.bool true)) (fun rec => ?_) (by have := rounds_gt; omega) rfl).trans ?_
    · have h1 : decide ((k : Int) < (a.length : Int)) = true := by simp; omega
      have hk' : k < b.length := by omega
      have hcall := sameCalls_eq a[k].calls b[k].calls (hc _ (List.getElem_mem hk))
      unfold ref26_SameRuns_L1
      dsimp only
      rw [List.length_map, if_pos h1, idxP_nat, idxP_nat, List.getElem?_map, List.getElem?_map, List.getElem?_eq_getElem hk, List.getElem?_eq_getElem hk']
      simp only [Option.map_some, bind_some', run0, run1, run2, run3, run4, run5, run6, run7, asInt, asStr, asBool, asSl, if_true, hcall, bif_or', bne_d, beq_d, wrap_nat (show k < 9223372036854775807 by omega)]
      have hd := run_dec a[k] b[k]
      by_cases he : a[k] = b[k]
      · simp [he, orFin]
      · rw [if_pos, if_neg (by simpa using he)]
        · rfl
        · rw [decide_eq_false he] at hd
          revert hd
          generalize decide (a[k].trip = b[k].trip) = x1
          generalize decide (a[k].day = b[k].day) = x2
          generalize decide (a[k].inst = b[k].inst) = x3
          generalize decide (a[k].id = b[k].id) = x4
          generalize decide (a[k].route = b[k].route) = x5
          generalize decide (a[k].free = b[k].free) = x6
          generalize decide (a[k].canc = b[k].canc) = x7
          generalize decide (a[k].calls = b[k].calls) = x8
          revert x1 x2 x3 x4 x5 x6 x7 x8
          decide
    · unfold ref26_SameRuns_L1
      dsimp only
      rw [if_neg (by simp)]
    · exact (eq_scan a b h (some (PV.bool false)) (some (PV.bool true))).trans if_dec
  · rw [if_pos (by rw [int_bne]; simp [h])]
    have : a ≠ b := fun e => h (by rw [e])
    simp [this]
def eqN (A B : Network) : Bool := decide (A.stops = B.stops) && decide (A.routes = B.routes) && decide (A.links = B.links) && decide (A.paths = B.paths) && decide (A.runs = B.runs) && (decide (A.disc = B.disc) && decide (A.within = B.within) && decide (A.cap = B.cap) && decide (A.prods = B.prods))
theorem eqN_self (A : Network) : eqN A A = true := by simp [eqN]
theorem equal_runs (A B : Network) (hA : A.Ok) (h : A.runs.length = B.runs.length) :
    lpS.run network_Equal_L1 (B.runs.map Run.pv, A.runs.map Run.pv, (A.runs.length : Int), 0, true, A.stops.map Stop.pv, A.routes.map Route.pv, A.runs.map Run.pv, A.links.map Link.pv, A.paths.map Path.pv, A.prods.map Prdt.pv, A.disc, A.within, A.cap, B.stops.map Stop.pv, B.routes.map Route.pv, B.runs.map Run.pv, B.links.map Link.pv, B.paths.map Path.pv, B.prods.map Prdt.pv, B.disc, B.within, B.cap, ()) = if A.runs = B.runs then some (.bool (decide (A.links = B.links) && decide (A.paths = B.paths))) else some (.bool false) := by
  have hm := maxLen_lt
  have hl := hA.runs.1
  have hc := fun x hx => (hA.runs.2 x hx).calls.1
  generalize ha : A.runs = a at h hl hc ⊢
  generalize hb : B.runs = b at h ⊢
  refine (loop_scan' (fun k => (b.map Run.pv, a.map Run.pv, (a.length : Int), (k : Int), true, A.stops.map Stop.pv, A.routes.map Route.pv, a.map Run.pv, A.links.map Link.pv, A.paths.map Path.pv, A.prods.map Prdt.pv, A.disc, A.within, A.cap, B.stops.map Stop.pv, B.routes.map Route.pv, b.map Run.pv, B.links.map Link.pv, B.paths.map Path.pv, B.prods.map Prdt.pv, B.disc, B.within, B.cap, ())) a.length (fun k => if a[k]? = b[k]? then none else some (some (PV.bool false))) (fun k hk rec => ?_) (fin := some (.bool (decide (A.links = B.links) && decide (A.paths = B.paths)))) (fun rec => ?_) (by have := rounds_gt; omega) rfl).trans ?_
  · have h1 : decide ((k : Int) < (a.length : Int)) = true := by simp; omega
    have hk' : k < b.length := by omega
    have hr := sameRun_eq a[k] b[k] (hc _ (List.getElem_mem hk))
    unfold network_Equal_L1
    dsimp only
    rw [if_pos h1, idxP_nat, idxP_nat, List.getElem?_map, List.getElem?_map, List.getElem?_eq_getElem hk, List.getElem?_eq_getElem hk']
    simp only [Option.map_some, bind_some', runE, hr, asBool, wrap_nat (show k < 9223372036854775807 by omega)]
    by_cases he : a[k] = b[k]
    · simp [he, orFin]
    · simp [he, orFin]
  · have hll := slices_Equal_Link_Link_eq A.links B.links hA.links.1
    have hpp := slices_Equal_Footpath_Footpath_eq A.paths B.paths hA.paths.1
    unfold network_Equal_L1
    dsimp only
    rw [if_neg (by simp)]
    simp only [if_true, hll, hpp, bind_some', asBool, bif_and]
  · exact eq_scan a b h _ _
theorem equal_prog (A B : Network) (hA : A.Ok) : network_Equal_M [A.pv, B.pv] = some (.bool (eqN A B)) := by
  have h1 := slices_Equal_Product_Product_eq A.prods B.prods hA.prods.1
  have h2 := slices_Equal_Stop_Stop_eq A.stops B.stops hA.stops.1
  have h3 := slices_Equal_Route_Route_eq A.routes B.routes hA.routes.1
  simp only [network_Equal_M, network_Equal, netA, net0, net1, net2, net3, net4, net5, net6, net7, net8, bind_some', h1, h2, h3, asBool, bif_or', bif_and, bne_d, List.length_map]
  unfold eqN
  by_cases e1 : (!decide (A.disc = B.disc) || !decide (A.within = B.within) || !decide (A.cap = B.cap) || !decide (A.prods = B.prods)) = true
  · rw [if_pos e1]
    have : (decide (A.disc = B.disc) && decide (A.within = B.within) && decide (A.cap = B.cap) && decide (A.prods = B.prods)) = false := by
      revert e1
      generalize decide (A.disc = B.disc) = x1
      generalize decide (A.within = B.within) = x2
      generalize decide (A.cap = B.cap) = x3
      generalize decide (A.prods = B.prods) = x4
      revert x1 x2 x3 x4
      decide
    rw [this, Bool.and_false]
  · rw [if_neg e1]
    have : (decide (A.disc = B.disc) && decide (A.within = B.within) && decide (A.cap = B.cap) && decide (A.prods = B.prods)) = true := by
      revert e1
      generalize decide (A.disc = B.disc) = x1
      generalize decide (A.within = B.within) = x2
      generalize decide (A.cap = B.cap) = x3
      generalize decide (A.prods = B.prods) = x4
      revert x1 x2 x3 x4
      decide
    rw [this, Bool.and_true]
    show (bif (decide (A.stops = B.stops) && decide (A.routes = B.routes)) then _ else _) = _
    cases hsr : decide (A.stops = B.stops) && decide (A.routes = B.routes) with
    | false => simp only [cond_false, Bool.false_and]
    | true =>
      simp only [cond_true, Bool.true_and]
      by_cases hlen : A.runs.length = B.runs.length
      · rw [if_neg (by rw [← bne_d, int_bne]; simp [hlen]), equal_runs A B hA hlen]
        by_cases hr : A.runs = B.runs
        · rw [if_pos hr]; simp [hr]
        · rw [if_neg hr]; simp [hr]
      · rw [if_pos (by rw [← bne_d, int_bne]; simp [hlen])]
        have : A.runs ≠ B.runs := fun e => hlen (by rw [e])
        simp [this]
def eqTail (A B : Network) : Bool := decide (A.runs = B.runs) && (decide (A.disc = B.disc) && decide (A.within = B.within) && decide (A.cap = B.cap) && decide (A.prods = B.prods))
theorem requal_l1 (A B : Network) (hA : A.Ok) (h : A.paths.length = B.paths.length) : lpS.run (ref26_Equal_L1) (0, A.stops.map Stop.pv, A.routes.map Route.pv, A.runs.map Run.pv, A.links.map Link.pv, A.paths.map Path.pv, A.prods.map Prdt.pv, A.disc, A.within, A.cap, B.stops.map Stop.pv, B.routes.map Route.pv, B.runs.map Run.pv, B.links.map Link.pv, B.paths.map Path.pv, B.prods.map Prdt.pv, B.disc, B.within, B.cap, ()) = if A.paths = B.paths then some (.bool (eqTail A B)) else some (.bool false) := by
  have hm := maxLen_lt
  have hl := hA.paths.1
  have e1 := sameRuns_eq A.runs B.runs hA.runs.1 (fun x hx => (hA.runs.2 x hx).calls.1)
  have e2 := sameFares_eq A.prods B.prods A.disc A.within A.cap B.disc B.within B.cap hA.prods.1
  unfold fare4 at e2
  generalize hfin : (some (.bool (eqTail A B)) : Option PV) = fin
  generalize ha : A.paths = a at h hl ⊢
  generalize hb : B.paths = b at h ⊢
  refine (loop_scan' (fun k => ((k : Int), A.stops.map Stop.pv, A.routes.map Route.pv, A.runs.map Run.pv, A.links.map Link.pv, a.map Path.pv, A.prods.map Prdt.pv, A.disc, A.within, A.cap, B.stops.map Stop.pv, B.routes.map Route.pv, B.runs.map Run.pv, B.links.map Link.pv, b.map Path.pv, B.prods.map Prdt.pv, B.disc, B.within, B.cap, ())) a.length (fun k => if a[k]? = b[k]? then none else some (some (PV.bool false))) (fun k hk rec => ?_) (fin := fin) (fun rec => ?_) (by have := rounds_gt; omega) rfl).trans ?_
  · have h1 : decide ((k : Int) < (a.length : Int)) = true := by simp; omega
    have hk' : k < b.length := by omega
    unfold ref26_Equal_L1
    dsimp only
    try rw [List.length_map]
    rw [if_pos h1, idxP_nat, idxP_nat, List.getElem?_map, List.getElem?_map, List.getElem?_eq_getElem hk, List.getElem?_eq_getElem hk']
    simp only [Option.map_some, bind_some']
    rw [if_pos ⟨rfl, rfl⟩, Path.peq, wrap_nat (by omega)]
    by_cases he : a[k] = b[k]
    · simp [he, orFin]
    · simp [he, orFin]
  · subst ha; subst hb
    rw [← hfin]
    unfold ref26_Equal_L1
    dsimp only
    rw [if_neg (by simp)]
    simp only [e1, e2, bind_some', asBool, bif_and]
    rfl
  · exact eq_scan a b h _ _
theorem requal_l2 (A B : Network) (hA : A.Ok) (h : A.links.length = B.links.length) : lpS.run (ref26_Equal_L2 lpS) (0, A.stops.map Stop.pv, A.routes.map Route.pv, A.runs.map Run.pv, A.links.map Link.pv, A.paths.map Path.pv, A.prods.map Prdt.pv, A.disc, A.within, A.cap, B.stops.map Stop.pv, B.routes.map Route.pv, B.runs.map Run.pv, B.links.map Link.pv, B.paths.map Path.pv, B.prods.map Prdt.pv, B.disc, B.within, B.cap, ()) = if A.links = B.links then lpS.run (ref26_Equal_L1) (0, A.stops.map Stop.pv, A.routes.map Route.pv, A.runs.map Run.pv, A.links.map Link.pv, A.paths.map Path.pv, A.prods.map Prdt.pv, A.disc, A.within, A.cap, B.stops.map Stop.pv, B.routes.map Route.pv, B.runs.map Run.pv, B.links.map Link.pv, B.paths.map Path.pv, B.prods.map Prdt.pv, B.disc, B.within, B.cap, ()) else some (.bool false) := by
  have hm := maxLen_lt
  have hl := hA.links.1
  have e1 := sameRuns_eq A.runs B.runs hA.runs.1 (fun x hx => (hA.runs.2 x hx).calls.1)
  have e2 := sameFares_eq A.prods B.prods A.disc A.within A.cap B.disc B.within B.cap hA.prods.1
  unfold fare4 at e2
  generalize hfin : (lpS.run (ref26_Equal_L1) (0, A.stops.map Stop.pv, A.routes.map Route.pv, A.runs.map Run.pv, A.links.map Link.pv, A.paths.map Path.pv, A.prods.map Prdt.pv, A.disc, A.within, A.cap, B.stops.map Stop.pv, B.routes.map Route.pv, B.runs.map Run.pv, B.links.map Link.pv, B.paths.map Path.pv, B.prods.map Prdt.pv, B.disc, B.within, B.cap, ()) : Option PV) = fin
  generalize ha : A.links = a at h hl ⊢
  generalize hb : B.links = b at h ⊢
  refine (loop_scan' (fun k => ((k : Int), A.stops.map Stop.pv, A.routes.map Route.pv, A.runs.map Run.pv, a.map Link.pv, A.paths.map Path.pv, A.prods.map Prdt.pv, A.disc, A.within, A.cap, B.stops.map Stop.pv, B.routes.map Route.pv, B.runs.map Run.pv, b.map Link.pv, B.paths.map Path.pv, B.prods.map Prdt.pv, B.disc, B.within, B.cap, ())) a.length (fun k => if a[k]? = b[k]? then none else some (some (PV.bool false))) (fun k hk rec => ?_) (fin := fin) (fun rec => ?_) (by have := rounds_gt; omega) rfl).trans ?_
  · have h1 : decide ((k : Int) < (a.length : Int)) = true := by simp; omega
    have hk' : k < b.length := by omega
    unfold ref26_Equal_L2
    dsimp only
    try rw [List.length_map]
    rw [if_pos h1, idxP_nat, idxP_nat, List.getElem?_map, List.getElem?_map, List.getElem?_eq_getElem hk, List.getElem?_eq_getElem hk']
    simp only [Option.map_some, bind_some']
    rw [if_pos ⟨rfl, rfl⟩, Link.peq, wrap_nat (by omega)]
    by_cases he : a[k] = b[k]
    · simp [he, orFin]
    · simp [he, orFin]
  · subst ha; subst hb
    rw [← hfin]
    unfold ref26_Equal_L2
    dsimp only
    rw [if_neg (by simp)]
  · exact eq_scan a b h _ _
theorem requal_l3 (A B : Network) (hA : A.Ok) (h : A.routes.length = B.routes.length) : lpS.run (ref26_Equal_L3 lpS) (0, A.stops.map Stop.pv, A.routes.map Route.pv, A.runs.map Run.pv, A.links.map Link.pv, A.paths.map Path.pv, A.prods.map Prdt.pv, A.disc, A.within, A.cap, B.stops.map Stop.pv, B.routes.map Route.pv, B.runs.map Run.pv, B.links.map Link.pv, B.paths.map Path.pv, B.prods.map Prdt.pv, B.disc, B.within, B.cap, ()) = if A.routes = B.routes then lpS.run (ref26_Equal_L2 lpS) (0, A.stops.map Stop.pv, A.routes.map Route.pv, A.runs.map Run.pv, A.links.map Link.pv, A.paths.map Path.pv, A.prods.map Prdt.pv, A.disc, A.within, A.cap, B.stops.map Stop.pv, B.routes.map Route.pv, B.runs.map Run.pv, B.links.map Link.pv, B.paths.map Path.pv, B.prods.map Prdt.pv, B.disc, B.within, B.cap, ()) else some (.bool false) := by
  have hm := maxLen_lt
  have hl := hA.routes.1
  have e1 := sameRuns_eq A.runs B.runs hA.runs.1 (fun x hx => (hA.runs.2 x hx).calls.1)
  have e2 := sameFares_eq A.prods B.prods A.disc A.within A.cap B.disc B.within B.cap hA.prods.1
  unfold fare4 at e2
  generalize hfin : (lpS.run (ref26_Equal_L2 lpS) (0, A.stops.map Stop.pv, A.routes.map Route.pv, A.runs.map Run.pv, A.links.map Link.pv, A.paths.map Path.pv, A.prods.map Prdt.pv, A.disc, A.within, A.cap, B.stops.map Stop.pv, B.routes.map Route.pv, B.runs.map Run.pv, B.links.map Link.pv, B.paths.map Path.pv, B.prods.map Prdt.pv, B.disc, B.within, B.cap, ()) : Option PV) = fin
  generalize ha : A.routes = a at h hl ⊢
  generalize hb : B.routes = b at h ⊢
  refine (loop_scan' (fun k => ((k : Int), A.stops.map Stop.pv, a.map Route.pv, A.runs.map Run.pv, A.links.map Link.pv, A.paths.map Path.pv, A.prods.map Prdt.pv, A.disc, A.within, A.cap, B.stops.map Stop.pv, b.map Route.pv, B.runs.map Run.pv, B.links.map Link.pv, B.paths.map Path.pv, B.prods.map Prdt.pv, B.disc, B.within, B.cap, ())) a.length (fun k => if a[k]? = b[k]? then none else some (some (PV.bool false))) (fun k hk rec => ?_) (fin := fin) (fun rec => ?_) (by have := rounds_gt; omega) rfl).trans ?_
  · have h1 : decide ((k : Int) < (a.length : Int)) = true := by simp; omega
    have hk' : k < b.length := by omega
    unfold ref26_Equal_L3
    dsimp only
    try rw [List.length_map]
    rw [if_pos h1, idxP_nat, idxP_nat, List.getElem?_map, List.getElem?_map, List.getElem?_eq_getElem hk, List.getElem?_eq_getElem hk']
    simp only [Option.map_some, bind_some']
    rw [if_pos ⟨rfl, rfl⟩, Route.peq, wrap_nat (by omega)]
    by_cases he : a[k] = b[k]
    · simp [he, orFin]
    · simp [he, orFin]
  · subst ha; subst hb
    rw [← hfin]
    unfold ref26_Equal_L3
    dsimp only
    rw [if_neg (by simp)]
  · exact eq_scan a b h _ _
theorem requal_l4 (A B : Network) (hA : A.Ok) (h : A.stops.length = B.stops.length) : lpS.run (ref26_Equal_L4 lpS) (0, A.stops.map Stop.pv, A.routes.map Route.pv, A.runs.map Run.pv, A.links.map Link.pv, A.paths.map Path.pv, A.prods.map Prdt.pv, A.disc, A.within, A.cap, B.stops.map Stop.pv, B.routes.map Route.pv, B.runs.map Run.pv, B.links.map Link.pv, B.paths.map Path.pv, B.prods.map Prdt.pv, B.disc, B.within, B.cap, ()) = if A.stops = B.stops then lpS.run (ref26_Equal_L3 lpS) (0, A.stops.map Stop.pv, A.routes.map Route.pv, A.runs.map Run.pv, A.links.map Link.pv, A.paths.map Path.pv, A.prods.map Prdt.pv, A.disc, A.within, A.cap, B.stops.map Stop.pv, B.routes.map Route.pv, B.runs.map Run.pv, B.links.map Link.pv, B.paths.map Path.pv, B.prods.map Prdt.pv, B.disc, B.within, B.cap, ()) else some (.bool false) := by
  have hm := maxLen_lt
  have hl := hA.stops.1
  have e1 := sameRuns_eq A.runs B.runs hA.runs.1 (fun x hx => (hA.runs.2 x hx).calls.1)
  have e2 := sameFares_eq A.prods B.prods A.disc A.within A.cap B.disc B.within B.cap hA.prods.1
  unfold fare4 at e2
  generalize hfin : (lpS.run (ref26_Equal_L3 lpS) (0, A.stops.map Stop.pv, A.routes.map Route.pv, A.runs.map Run.pv, A.links.map Link.pv, A.paths.map Path.pv, A.prods.map Prdt.pv, A.disc, A.within, A.cap, B.stops.map Stop.pv, B.routes.map Route.pv, B.runs.map Run.pv, B.links.map Link.pv, B.paths.map Path.pv, B.prods.map Prdt.pv, B.disc, B.within, B.cap, ()) : Option PV) = fin
  generalize ha : A.stops = a at h hl ⊢
  generalize hb : B.stops = b at h ⊢
  refine (loop_scan' (fun k => ((k : Int), a.map Stop.pv, A.routes.map Route.pv, A.runs.map Run.pv, A.links.map Link.pv, A.paths.map Path.pv, A.prods.map Prdt.pv, A.disc, A.within, A.cap, b.map Stop.pv, B.routes.map Route.pv, B.runs.map Run.pv, B.links.map Link.pv, B.paths.map Path.pv, B.prods.map Prdt.pv, B.disc, B.within, B.cap, ())) a.length (fun k => if a[k]? = b[k]? then none else some (some (PV.bool false))) (fun k hk rec => ?_) (fin := fin) (fun rec => ?_) (by have := rounds_gt; omega) rfl).trans ?_
  · have h1 : decide ((k : Int) < (a.length : Int)) = true := by simp; omega
    have hk' : k < b.length := by omega
    unfold ref26_Equal_L4
    dsimp only
    try rw [List.length_map]
    rw [if_pos h1, idxP_nat, idxP_nat, List.getElem?_map, List.getElem?_map, List.getElem?_eq_getElem hk, List.getElem?_eq_getElem hk']
    simp only [Option.map_some, bind_some']
    rw [if_pos ⟨rfl, rfl⟩, Stop.peq, wrap_nat (by omega)]
    by_cases he : a[k] = b[k]
    · simp [he, orFin]
    · simp [he, orFin]
  · subst ha; subst hb
    rw [← hfin]
    unfold ref26_Equal_L4
    dsimp only
    rw [if_neg (by simp)]
  · exact eq_scan a b h _ _
theorem equal_ref (A B : Network) (hA : A.Ok) : ref26_Equal_M [A.pv, B.pv] = some (.bool (eqN A B)) := by
  simp only [ref26_Equal_M, ref26_Equal, netA, net0, net1, net2, net3, net4, net5, net6, net7, net8, bind_some', bif_or', List.length_map, int_bne]
  unfold eqN
  by_cases h1 : A.stops.length = B.stops.length
  · by_cases h2 : A.routes.length = B.routes.length
    · by_cases h3 : A.links.length = B.links.length
      · by_cases h4 : A.paths.length = B.paths.length
        · rw [if_neg (by simp [h1, h2, h3, h4]), requal_l4 A B hA h1, requal_l3 A B hA h2, requal_l2 A B hA h3, requal_l1 A B hA h4]
          unfold eqTail
          by_cases g1 : A.stops = B.stops
          · by_cases g2 : A.routes = B.routes
            · by_cases g3 : A.links = B.links
              · by_cases g4 : A.paths = B.paths
                · rw [if_pos g1, if_pos g2, if_pos g3, if_pos g4]; simp [g1, g2, g3, g4]
                · rw [if_pos g1, if_pos g2, if_pos g3, if_neg g4]; simp [g4]
              · rw [if_pos g1, if_pos g2, if_neg g3]; simp [g3]
            · rw [if_pos g1, if_neg g2]; simp [g2]
          · rw [if_neg g1]; simp [g1]
        · rw [if_pos (by simp [h4])]
          have : A.paths ≠ B.paths := fun e => h4 (by rw [e])
          simp [this]
      · rw [if_pos (by simp [h3])]
        have : A.links ≠ B.links := fun e => h3 (by rw [e])
        simp [this]
    · rw [if_pos (by simp [h2])]
      have : A.routes ≠ B.routes := fun e => h2 (by rw [e])
      simp [this]
  · rw [if_pos (by simp [h1])]
    have : A.stops ≠ B.stops := fun e => h1 (by rw [e])
    simp [this]
theorem equal_law (A B : Network) (hA : A.Ok) (hB : B.Ok) : law26_NetworkEqual_M [A.pv, B.pv] = some (.bool true) := by
  have h3 := example_holds
  have hlA := light_ok A hA.runs.1
  have hlB := light_ok B hB.runs.1
  have e1 := equal_prog A B hA
  have e2 := equal_ref A B hA
  have e3 := equal_prog A A hA
  rw [eqN_self] at e3
  simp only [law26_NetworkEqual_M, law26_NetworkEqual, netA, net0, net1, net2, net3, net4, net5, net6, net7, net8, bind_some', netE, hlA, hlB, e1, e2, e3, h3, asBool, bif_or']
  cases !lightB A || !lightB B with
  | true => simp only [if_true]
  | false => simp only [Bool.false_eq_true, if_false, beq_self_eq_true, cond_true]; rfl
end Go.Ab.Tt
