/- Runs and links as plain data; the runs of a day and of some days, and what their keys are. Plain laws. -/
import Derived.Test.YtinbhofpofcmeaaGreatDoorCals
import Derived.Test.YtinbhofpofcmeaaGreatDoorRnA
namespace Go.Ab.Tt
set_option linter.unusedVariables false

structure Lnk where
  a : Int
  ac : Int
  b : Int
  bc : Int
  stay : Bool
  deriving DecidableEq
def Lnk.pv (x : Lnk) : PV := .agg [.int .i64 x.a, .int .i64 x.ac, .int .i64 x.b, .int .i64 x.bc, .bool x.stay]

def shK (by' : Int) (k : Kall) : Kall := { k with arr := IntKind.i64.wrap (k.arr + by'), dep := IntKind.i64.wrap (k.dep + by') }
def dayS (day : Int) : Int := IntKind.i64.wrap (day * 86400)
def runOf (x : Trip) (i day k : Int) (cs : List Kall) : Run := ⟨i, day, k, x.id, x.route, x.free, false, cs.map (shK (dayS day))⟩
/-- the starts of a frequency -/
def startsI (f : Freq) : List Int := if soundB f = true then (List.range (cntF f).toNat).map fun (j : Nat) => f.t0 + (j : Int) * f.every else []
/-- the starts of a trip, in order -/
def instF (l : List Int) (f : Freq) : List Int := (startsI f).foldl (fun l t => insR t l) l
def instI (fs : List Freq) (i : Int) : List Int := (fs.filter fun f => decide (f.trip = i)).foldl instF []
/-- the calls of a trip that is started at a time -/
def fcallsK (l : List Kall) (s : Int) : List Kall := if callsE l s = 0 then l.map fun k => mvK k ((l.map Kall.dep).headD 0) s else []
def tripRuns (T : Timetable) (i : Nat) (x : Trip) (day : Int) : List Run :=
  if activeB T.cals T.excs x.cal day = false then [] else
  if repB T.freqs i = false then [runOf x i day 0 x.calls] else
  (List.range (instI T.freqs i).length).map fun (k : Nat) => runOf x i day k (fcallsK x.calls ((instI T.freqs i).getD k 0))
def tripRunsAt (T : Timetable) (day : Int) (i : Nat) : List Run := match T.trips[i]? with
  | some x => tripRuns T i x day
  | none => []
def dayRuns (T : Timetable) (day : Int) : List Run := (List.range T.trips.length).flatMap (tripRunsAt T day)
def daysRuns (T : Timetable) (day : Int) (n : Nat) : List Run := (List.range n).flatMap fun (d : Nat) => dayRuns T (day + d)

theorem tripRuns_mem {T : Timetable} {i : Nat} {x : Trip} {day : Int} {r : Run} (h : r ∈ tripRuns T i x day) : ∃ (k : Nat) (cs : List Kall), r = runOf x i day k cs := by
  unfold tripRuns at h
  split at h
  · cases h
  · split at h
    · exact ⟨0, _, by simpa using h⟩
    · obtain ⟨k, _, rfl⟩ := List.mem_map.1 h
      exact ⟨k, _, rfl⟩
theorem at_mem {T : Timetable} {i : Nat} {day : Int} {r : Run} (h : r ∈ tripRunsAt T day i) : ∃ (x : Trip) (k : Nat) (cs : List Kall), T.trips[i]? = some x ∧ r = runOf x i day k cs := by
  unfold tripRunsAt at h
  split at h
  · rename_i x hx
    obtain ⟨k, cs, e⟩ := tripRuns_mem h
    exact ⟨x, k, cs, hx, e⟩
  · cases h
def Run.key (r : Run) : Int × Int × Int := (r.trip, r.day, r.inst)
theorem tripRuns_keys (T : Timetable) (i : Nat) (x : Trip) (day : Int) : (tripRuns T i x day).Pairwise fun r s => r.inst ≠ s.inst := by
  unfold tripRuns
  split
  · exact List.Pairwise.nil
  · split
    · simp
    · rw [List.pairwise_map]
      refine List.Pairwise.imp_of_mem (R := fun a b => a ≠ b) (fun _ _ h => ?_) List.nodup_range
      simp only [runOf]
      omega
theorem at_keys (T : Timetable) (day : Int) (i : Nat) : (tripRunsAt T day i).Pairwise fun r s => r.inst ≠ s.inst := by
  unfold tripRunsAt
  split
  · exact tripRuns_keys ..
  · exact List.Pairwise.nil
theorem dayRuns_keys (T : Timetable) (day : Int) : (dayRuns T day).Pairwise fun r s => r.key ≠ s.key := by
  unfold dayRuns
  rw [List.pairwise_flatMap]
  refine ⟨fun i _ => (at_keys T day i).imp fun h e => h (congrArg (fun k => k.2.2) e), ?_⟩
  refine List.Pairwise.imp_of_mem (R := fun a b => a ≠ b) (fun {a b} _ _ h r hr s hs e => ?_) List.nodup_range
  obtain ⟨x, k, cs, _, rfl⟩ := at_mem hr
  obtain ⟨y, k', cs', _, rfl⟩ := at_mem hs
  simp only [Run.key, runOf, Prod.mk.injEq] at e
  omega
theorem dayRuns_day {T : Timetable} {day : Int} {r : Run} (h : r ∈ dayRuns T day) : r.day = day := by
  obtain ⟨i, _, hr⟩ := List.mem_flatMap.1 h
  obtain ⟨x, k, cs, _, rfl⟩ := at_mem hr
  rfl
theorem daysRuns_keys (T : Timetable) (day : Int) (n : Nat) : (daysRuns T day n).Pairwise fun r s => r.key ≠ s.key := by
  unfold daysRuns
  rw [List.pairwise_flatMap]
  refine ⟨fun d _ => dayRuns_keys T _, ?_⟩
  refine List.Pairwise.imp_of_mem (R := fun a b => a ≠ b) (fun {a b} _ _ h r hr s hs e => ?_) List.nodup_range
  have h1 := dayRuns_day hr
  have h2 := dayRuns_day hs
  have : r.day = s.day := congrArg (fun k => k.2.1) e
  omega
theorem mem_day {T : Timetable} {day : Int} {r : Run} : r ∈ dayRuns T day ↔ ∃ (i : Nat) (x : Trip), T.trips[i]? = some x ∧ r.trip = i ∧ r ∈ tripRuns T i x day := by
  unfold dayRuns
  rw [List.mem_flatMap]
  constructor
  · rintro ⟨i, hi, hr⟩
    obtain ⟨x, k, cs, hx, e⟩ := at_mem hr
    unfold tripRunsAt at hr
    rw [hx] at hr
    exact ⟨i, x, hx, by rw [e]; rfl, hr⟩
  · rintro ⟨i, x, hx, _, hr⟩
    refine ⟨i, List.mem_range.2 (List.getElem?_eq_some_iff.1 hx).1, ?_⟩
    unfold tripRunsAt
    rw [hx]; exact hr
end Go.Ab.Tt
