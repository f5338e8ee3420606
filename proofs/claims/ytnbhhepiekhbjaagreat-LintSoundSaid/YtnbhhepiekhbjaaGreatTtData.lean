/- The parts of a timetable as plain data, and as pure values. Printed by a program of the author. -/
import Derived.Test.YtnbhhepiekhbjaaGreatAbTrod
namespace Go.Ab.Tt
abbrev I64 (n : Int) : Prop := (Lit.int .i64 n).wf = true
structure Stop where
  id : Bytes
  zone : Int
  free : Bool
  change : Int
  deriving DecidableEq
def Stop.pv (x : Stop) : PV := .agg [.str x.id, .int .i64 x.zone, .bool x.free, .int .i64 x.change]
structure Stop.Ok (x : Stop) : Prop where
  id : x.id.length ≤ maxLen
  zone : I64 x.zone
  change : I64 x.change
structure Route where
  id : Bytes
  mode : Int
  bike : Bool
  deriving DecidableEq
def Route.pv (x : Route) : PV := .agg [.str x.id, .int .i64 x.mode, .bool x.bike]
structure Route.Ok (x : Route) : Prop where
  id : x.id.length ≤ maxLen
  mode : I64 x.mode
structure Cal where
  id : Bytes
  w0 : Bool
  w1 : Bool
  w2 : Bool
  w3 : Bool
  w4 : Bool
  w5 : Bool
  w6 : Bool
  day0 : Int
  day1 : Int
  deriving DecidableEq
def Cal.pv (x : Cal) : PV := .agg [.str x.id, .bool x.w0, .bool x.w1, .bool x.w2, .bool x.w3, .bool x.w4, .bool x.w5, .bool x.w6, .int .i64 x.day0, .int .i64 x.day1]
structure Cal.Ok (x : Cal) : Prop where
  id : x.id.length ≤ maxLen
  day0 : I64 x.day0
  day1 : I64 x.day1
structure Exc where
  cal : Int
  day : Int
  added : Bool
  deriving DecidableEq
def Exc.pv (x : Exc) : PV := .agg [.int .i64 x.cal, .int .i64 x.day, .bool x.added]
structure Exc.Ok (x : Exc) : Prop where
  cal : I64 x.cal
  day : I64 x.day
structure Kall where
  stop : Int
  arr : Int
  dep : Int
  board : Bool
  alight : Bool
  deriving DecidableEq
def Kall.pv (x : Kall) : PV := .agg [.int .i64 x.stop, .int .i64 x.arr, .int .i64 x.dep, .bool x.board, .bool x.alight]
structure Kall.Ok (x : Kall) : Prop where
  stop : I64 x.stop
  arr : I64 x.arr
  dep : I64 x.dep
structure Trip where
  id : Bytes
  route : Int
  cal : Int
  free : Bool
  calls : List Kall
  deriving DecidableEq
def Trip.pv (x : Trip) : PV := .agg [.str x.id, .int .i64 x.route, .int .i64 x.cal, .bool x.free, .rs 5 (x.calls.map Kall.pv)]
structure Trip.Ok (x : Trip) : Prop where
  id : x.id.length ≤ maxLen
  route : I64 x.route
  cal : I64 x.cal
  calls : x.calls.length ≤ maxLen ∧ ∀ y ∈ x.calls, y.Ok
structure Freq where
  trip : Int
  t0 : Int
  t1 : Int
  every : Int
  deriving DecidableEq
def Freq.pv (x : Freq) : PV := .agg [.int .i64 x.trip, .int .i64 x.t0, .int .i64 x.t1, .int .i64 x.every]
structure Freq.Ok (x : Freq) : Prop where
  trip : I64 x.trip
  t0 : I64 x.t0
  t1 : I64 x.t1
  every : I64 x.every
structure Thr where
  a : Int
  b : Int
  deriving DecidableEq
def Thr.pv (x : Thr) : PV := .agg [.int .i64 x.a, .int .i64 x.b]
structure Thr.Ok (x : Thr) : Prop where
  a : I64 x.a
  b : I64 x.b
structure Guar where
  a : Int
  b : Int
  stop : Int
  deriving DecidableEq
def Guar.pv (x : Guar) : PV := .agg [.int .i64 x.a, .int .i64 x.b, .int .i64 x.stop]
structure Guar.Ok (x : Guar) : Prop where
  a : I64 x.a
  b : I64 x.b
  stop : I64 x.stop
structure Path where
  a : Int
  b : Int
  secs : Int
  free : Bool
  deriving DecidableEq
def Path.pv (x : Path) : PV := .agg [.int .i64 x.a, .int .i64 x.b, .int .i64 x.secs, .bool x.free]
structure Path.Ok (x : Path) : Prop where
  a : I64 x.a
  b : I64 x.b
  secs : I64 x.secs
structure Prdt where
  id : Bytes
  price : Int
  rides : Int
  zones : Int
  secs : Int
  modes : Int
  deriving DecidableEq
def Prdt.pv (x : Prdt) : PV := .agg [.str x.id, .int .i64 x.price, .int .i64 x.rides, .int .i64 x.zones, .int .i64 x.secs, .int .i64 x.modes]
structure Prdt.Ok (x : Prdt) : Prop where
  id : x.id.length ≤ maxLen
  price : I64 x.price
  rides : I64 x.rides
  zones : I64 x.zones
  secs : I64 x.secs
  modes : I64 x.modes
structure Timetable where
  stops : List Stop
  routes : List Route
  cals : List Cal
  excs : List Exc
  trips : List Trip
  freqs : List Freq
  thrs : List Thr
  guars : List Guar
  paths : List Path
  prods : List Prdt
  disc : Int
  within : Int
  cap : Int
def Timetable.pv (x : Timetable) : PV := .agg [.rs 4 (x.stops.map Stop.pv), .rs 3 (x.routes.map Route.pv), .rs 10 (x.cals.map Cal.pv), .rs 3 (x.excs.map Exc.pv), .rs 5 (x.trips.map Trip.pv), .rs 4 (x.freqs.map Freq.pv), .rs 2 (x.thrs.map Thr.pv), .rs 3 (x.guars.map Guar.pv), .rs 4 (x.paths.map Path.pv), .rs 6 (x.prods.map Prdt.pv), .int .i64 x.disc, .int .i64 x.within, .int .i64 x.cap]
structure Timetable.Ok (x : Timetable) : Prop where
  stops : x.stops.length ≤ maxLen ∧ ∀ y ∈ x.stops, y.Ok
  routes : x.routes.length ≤ maxLen ∧ ∀ y ∈ x.routes, y.Ok
  cals : x.cals.length ≤ maxLen ∧ ∀ y ∈ x.cals, y.Ok
  excs : x.excs.length ≤ maxLen ∧ ∀ y ∈ x.excs, y.Ok
  trips : x.trips.length ≤ maxLen ∧ ∀ y ∈ x.trips, y.Ok
  freqs : x.freqs.length ≤ maxLen ∧ ∀ y ∈ x.freqs, y.Ok
  thrs : x.thrs.length ≤ maxLen ∧ ∀ y ∈ x.thrs, y.Ok
  guars : x.guars.length ≤ maxLen ∧ ∀ y ∈ x.guars, y.Ok
  paths : x.paths.length ≤ maxLen ∧ ∀ y ∈ x.paths, y.Ok
  prods : x.prods.length ≤ maxLen ∧ ∀ y ∈ x.prods, y.Ok
  disc : I64 x.disc
  within : I64 x.within
  cap : I64 x.cap

section
variable {P : Program} {d : Nat} {t : TypeId} {a : List PV}
theorem shp_struct {fs : Array Field} (hu : P.underlying t = some (.struct fs)) (h : Shp P (d + 1) t a) : ShpF P (Shp P d) fs.toList a := by unfold Shp at h; rw [hu] at h; exact h
theorem shp_array {n : Nat} {e : TypeId} (hu : P.underlying t = some (.array n e)) (h : Shp P (d + 1) t a) : ShpN (Shp P d e) (csz P e) n a := by unfold Shp at h; rw [hu] at h; exact h
theorem shp_str (hu : P.underlying t = some .string) (h : Shp P (d + 1) t a) : ∃ s : Bytes, a = [.str s] ∧ s.length ≤ maxLen := by unfold Shp at h; rw [hu] at h; exact h
theorem shp_int {k : IntKind} (hu : P.underlying t = some (.int k)) (h : Shp P (d + 1) t a) : ∃ n, a = [.int k n] ∧ (Lit.int k n).wf = true := by unfold Shp at h; rw [hu] at h; exact h
theorem shp_bool (hu : P.underlying t = some .bool) (h : Shp P (d + 1) t a) : ∃ b, a = [.bool b] := by unfold Shp at h; rw [hu] at h; exact h
theorem choose_list {B : Type} {f : B → PV} {Q : B → Prop} : ∀ {es : List PV}, (∀ x ∈ es, ∃ s, x = f s ∧ Q s) → ∃ l : List B, es = l.map f ∧ ∀ s ∈ l, Q s
  | [], _ => ⟨[], rfl, by simp⟩
  | x :: es, h => by
    obtain ⟨s, hs, hq⟩ := h x (by simp)
    obtain ⟨l, hl, hql⟩ := choose_list (es := es) fun y hy => h y (by simp [hy])
    exact ⟨s :: l, by simp [hs, hl], fun y hy => by
      rcases List.mem_cons.1 hy with rfl | hy
      · exact hq
      · exact hql y hy⟩
theorem shp_list {e : TypeId} {B : Type} {f : B → PV} {Q : B → Prop} (hu : P.underlying t = some (.slice e)) (hagg : isAggT P e = true) {c : Nat} (hc : csz P e = c) (hB : ∀ qs, Shp P d e qs → ∃ s, mkE true qs = f s ∧ Q s) (h : Shp P (d + 1) t a) :
    ∃ l : List B, a = [.rs c (l.map f)] ∧ l.length ≤ maxLen ∧ ∀ s ∈ l, Q s := by
  unfold Shp at h; rw [hu] at h
  obtain ⟨es, rfl, hl, he⟩ := h
  obtain ⟨l, rfl, hq⟩ := choose_list (f := f) (Q := Q) (es := es) fun x hx => by
    obtain ⟨qs, rfl, _, hs⟩ := he x hx
    rw [hagg]; exact hB qs hs
  exact ⟨l, by rw [hc], by simpa using hl, hq⟩
end
end Go.Ab.Tt
