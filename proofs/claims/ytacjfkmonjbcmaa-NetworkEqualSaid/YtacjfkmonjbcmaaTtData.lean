/- The parts of a timetable as plain data, and as pure values. Printed by a program of the author. -/
import Derived.Test.YtacjfkmonjbcmaaAbTrod
namespace Go.Ab.Tt
abbrev I64 (n : Int) : Prop := (Lit.int .i64 n).wf = true
structure Stop where
  id : Bytes
  zone : Int
  free : Bool
  change : Int
  deriving DecidableEq
def Stop.pv (x : Stop) : PV := .agg [.str x.id, .int .i64 x.zone, .bool x.free, .int .i64 x.change]
structure Stop.OkM (M : Nat) (x : Stop) : Prop where
  id : x.id.length ≤ M
  zone : I64 x.zone
  change : I64 x.change
abbrev Stop.Ok (x : Stop) : Prop := x.OkM maxLen
structure Route where
  id : Bytes
  mode : Int
  bike : Bool
  deriving DecidableEq
def Route.pv (x : Route) : PV := .agg [.str x.id, .int .i64 x.mode, .bool x.bike]
structure Route.OkM (M : Nat) (x : Route) : Prop where
  id : x.id.length ≤ M
  mode : I64 x.mode
abbrev Route.Ok (x : Route) : Prop := x.OkM maxLen
structure Cal where
  id : Bytes
  w0 : Bool
  w1 : Bool
  w2 : Bool
  w3 : Bool
  w4 : Bool
  w5 : Bool
  w6 : Bool
  day0 : Int
  day1 : Int
  deriving DecidableEq
def Cal.pv (x : Cal) : PV := .agg [.str x.id, .bool x.w0, .bool x.w1, .bool x.w2, .bool x.w3, .bool x.w4, .bool x.w5, .bool x.w6, .int .i64 x.day0, .int .i64 x.day1]
structure Cal.OkM (M : Nat) (x : Cal) : Prop where
  id : x.id.length ≤ M
  day0 : I64 x.day0
  day1 : I64 x.day1
abbrev Cal.Ok (x : Cal) : Prop := x.OkM maxLen
structure Exc where
  cal : Int
  day : Int
  added : Bool
  deriving DecidableEq
def Exc.pv (x : Exc) : PV := .agg [.int .i64 x.cal, .int .i64 x.day, .bool x.added]
structure Exc.OkM (M : Nat) (x : Exc) : Prop where
  cal : I64 x.cal
  day : I64 x.day
abbrev Exc.Ok (x : Exc) : Prop := x.OkM maxLen
structure Kall where
  stop : Int
  arr : Int
  dep : Int
  board : Bool
  alight : Bool
  deriving DecidableEq
def Kall.pv (x : Kall) : PV := .agg [.int .i64 x.stop, .int .i64 x.arr, .int .i64 x.dep, .bool x.board, .bool x.alight]
structure Kall.OkM (M : Nat) (x : Kall) : Prop where
  stop : I64 x.stop
  arr : I64 x.arr
  dep : I64 x.dep
abbrev Kall.Ok (x : Kall) : Prop := x.OkM maxLen
structure Trip where
  id : Bytes
  route : Int
  cal : Int
  free : Bool
  calls : List Kall
  deriving DecidableEq
def Trip.pv (x : Trip) : PV := .agg [.str x.id, .int .i64 x.route, .int .i64 x.cal, .bool x.free, .rs 5 (x.calls.map Kall.pv)]
structure Trip.OkM (M : Nat) (x : Trip) : Prop where
  id : x.id.length ≤ M
  route : I64 x.route
  cal : I64 x.cal
  calls : x.calls.length ≤ M ∧ ∀ y ∈ x.calls, y.OkM M
abbrev Trip.Ok (x : Trip) : Prop := x.OkM maxLen
structure Freq where
  trip : Int
  t0 : Int
  t1 : Int
  every : Int
  deriving DecidableEq
def Freq.pv (x : Freq) : PV := .agg [.int .i64 x.trip, .int .i64 x.t0, .int .i64 x.t1, .int .i64 x.every]
structure Freq.OkM (M : Nat) (x : Freq) : Prop where
  trip : I64 x.trip
  t0 : I64 x.t0
  t1 : I64 x.t1
  every : I64 x.every
abbrev Freq.Ok (x : Freq) : Prop := x.OkM maxLen
structure Thr where
  a : Int
  b : Int
  deriving DecidableEq
def Thr.pv (x : Thr) : PV := .agg [.int .i64 x.a, .int .i64 x.b]
structure Thr.OkM (M : Nat) (x : Thr) : Prop where
  a : I64 x.a
  b : I64 x.b
abbrev Thr.Ok (x : Thr) : Prop := x.OkM maxLen
structure Guar where
  a : Int
  b : Int
  stop : Int
  deriving DecidableEq
def Guar.pv (x : Guar) : PV := .agg [.int .i64 x.a, .int .i64 x.b, .int .i64 x.stop]
structure Guar.OkM (M : Nat) (x : Guar) : Prop where
  a : I64 x.a
  b : I64 x.b
  stop : I64 x.stop
abbrev Guar.Ok (x : Guar) : Prop := x.OkM maxLen
structure Path where
  a : Int
  b : Int
  secs : Int
  free : Bool
  deriving DecidableEq
def Path.pv (x : Path) : PV := .agg [.int .i64 x.a, .int .i64 x.b, .int .i64 x.secs, .bool x.free]
structure Path.OkM (M : Nat) (x : Path) : Prop where
  a : I64 x.a
  b : I64 x.b
  secs : I64 x.secs
abbrev Path.Ok (x : Path) : Prop := x.OkM maxLen
structure Prdt where
  id : Bytes
  price : Int
  rides : Int
  zones : Int
  secs : Int
  modes : Int
  deriving DecidableEq
def Prdt.pv (x : Prdt) : PV := .agg [.str x.id, .int .i64 x.price, .int .i64 x.rides, .int .i64 x.zones, .int .i64 x.secs, .int .i64 x.modes]
structure Prdt.OkM (M : Nat) (x : Prdt) : Prop where
  id : x.id.length ≤ M
  price : I64 x.price
  rides : I64 x.rides
  zones : I64 x.zones
  secs : I64 x.secs
  modes : I64 x.modes
abbrev Prdt.Ok (x : Prdt) : Prop := x.OkM maxLen
structure Timetable where
  stops : List Stop
  routes : List Route
  cals : List Cal
  excs : List Exc
  trips : List Trip
  freqs : List Freq
  thrs : List Thr
  guars : List Guar
  paths : List Path
  prods : List Prdt
  disc : Int
  within : Int
  cap : Int
def Timetable.pv (x : Timetable) : PV := .agg [.rs 4 (x.stops.map Stop.pv), .rs 3 (x.routes.map Route.pv), .rs 10 (x.cals.map Cal.pv), .rs 3 (x.excs.map Exc.pv), .rs 5 (x.trips.map Trip.pv), .rs 4 (x.freqs.map Freq.pv), .rs 2 (x.thrs.map Thr.pv), .rs 3 (x.guars.map Guar.pv), .rs 4 (x.paths.map Path.pv), .rs 6 (x.prods.map Prdt.pv), .int .i64 x.disc, .int .i64 x.within, .int .i64 x.cap]
structure Timetable.OkM (M : Nat) (x : Timetable) : Prop where
  stops : x.stops.length ≤ M ∧ ∀ y ∈ x.stops, y.OkM M
  routes : x.routes.length ≤ M ∧ ∀ y ∈ x.routes, y.OkM M
  cals : x.cals.length ≤ M ∧ ∀ y ∈ x.cals, y.OkM M
  excs : x.excs.length ≤ M ∧ ∀ y ∈ x.excs, y.OkM M
  trips : x.trips.length ≤ M ∧ ∀ y ∈ x.trips, y.OkM M
  freqs : x.freqs.length ≤ M ∧ ∀ y ∈ x.freqs, y.OkM M
  thrs : x.thrs.length ≤ M ∧ ∀ y ∈ x.thrs, y.OkM M
  guars : x.guars.length ≤ M ∧ ∀ y ∈ x.guars, y.OkM M
  paths : x.paths.length ≤ M ∧ ∀ y ∈ x.paths, y.OkM M
  prods : x.prods.length ≤ M ∧ ∀ y ∈ x.prods, y.OkM M
  disc : I64 x.disc
  within : I64 x.within
  cap : I64 x.cap
abbrev Timetable.Ok (x : Timetable) : Prop := x.OkM maxLen

section
variable {P : Program} {M d : Nat} {t : TypeId} {a : List PV}
theorem shp_struct {fs : Array Field} (hu : P.underlying t = some (.struct fs)) (h : ShpM M P (d + 1) t a) : ShpF P (ShpM M P d) fs.toList a := by unfold ShpM at h; rw [hu] at h; exact h
theorem shp_str (hu : P.underlying t = some .string) (h : ShpM M P (d + 1) t a) : ∃ s : Bytes, a = [.str s] ∧ s.length ≤ M := by unfold ShpM at h; rw [hu] at h; exact h
theorem shp_int {k : IntKind} (hu : P.underlying t = some (.int k)) (h : ShpM M P (d + 1) t a) : ∃ n, a = [.int k n] ∧ (Lit.int k n).wf = true := by unfold ShpM at h; rw [hu] at h; exact h
theorem shp_bool (hu : P.underlying t = some .bool) (h : ShpM M P (d + 1) t a) : ∃ b, a = [.bool b] := by unfold ShpM at h; rw [hu] at h; exact h
theorem choose_list {B : Type} {f : B → PV} {Q : B → Prop} : ∀ {es : List PV}, (∀ x ∈ es, ∃ s, x = f s ∧ Q s) → ∃ l : List B, es = l.map f ∧ ∀ s ∈ l, Q s
  | [], _ => ⟨[], rfl, by simp⟩
  | x :: es, h => by
    obtain ⟨s, hs, hq⟩ := h x (by simp)
    obtain ⟨l, hl, hql⟩ := choose_list (es := es) fun y hy => h y (by simp [hy])
    exact ⟨s :: l, by simp [hs, hl], fun y hy => by
      rcases List.mem_cons.1 hy with rfl | hy
      · exact hq
      · exact hql y hy⟩
theorem shp_list {e : TypeId} {B : Type} {f : B → PV} {Q : B → Prop} (hu : P.underlying t = some (.slice e)) (hagg : isAggT P e = true) {c : Nat} (hc : csz P e = c) (hB : ∀ qs, ShpM M P d e qs → ∃ s, mkE true qs = f s ∧ Q s) (h : ShpM M P (d + 1) t a) :
    ∃ l : List B, a = [.rs c (l.map f)] ∧ l.length ≤ M ∧ ∀ s ∈ l, Q s := by
  unfold ShpM at h; rw [hu] at h
  obtain ⟨es, rfl, hl, he⟩ := h
  obtain ⟨l, rfl, hq⟩ := choose_list (f := f) (Q := Q) (es := es) fun x hx => by
    obtain ⟨qs, rfl, _, hs⟩ := he x hx
    rw [hagg]; exact hB qs hs
  exact ⟨l, by rw [hc], by simpa using hl, hq⟩
end
end Go.Ab.Tt
