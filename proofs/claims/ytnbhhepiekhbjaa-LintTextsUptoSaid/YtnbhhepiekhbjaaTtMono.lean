/- Shorter texts and slices are short, too. -/
import Derived.Test.YtnbhhepiekhbjaaTtData
namespace Go.Ab.Tt
set_option linter.unusedVariables false
section
variable {M N : Nat}
theorem Stop.OkM.mono (hM : M ≤ N) {x : Stop} (h : x.OkM M) : x.OkM N := ⟨Nat.le_trans h.id hM, h.zone, h.change⟩
theorem Route.OkM.mono (hM : M ≤ N) {x : Route} (h : x.OkM M) : x.OkM N := ⟨Nat.le_trans h.id hM, h.mode⟩
theorem Cal.OkM.mono (hM : M ≤ N) {x : Cal} (h : x.OkM M) : x.OkM N := ⟨Nat.le_trans h.id hM, h.day0, h.day1⟩
theorem Exc.OkM.mono (hM : M ≤ N) {x : Exc} (h : x.OkM M) : x.OkM N := ⟨h.cal, h.day⟩
theorem Kall.OkM.mono (hM : M ≤ N) {x : Kall} (h : x.OkM M) : x.OkM N := ⟨h.stop, h.arr, h.dep⟩
theorem Trip.OkM.mono (hM : M ≤ N) {x : Trip} (h : x.OkM M) : x.OkM N := ⟨Nat.le_trans h.id hM, h.route, h.cal, Nat.le_trans h.calls.1 hM, fun y hy => Kall.OkM.mono hM (h.calls.2 y hy)⟩
theorem Freq.OkM.mono (hM : M ≤ N) {x : Freq} (h : x.OkM M) : x.OkM N := ⟨h.trip, h.t0, h.t1, h.every⟩
theorem Thr.OkM.mono (hM : M ≤ N) {x : Thr} (h : x.OkM M) : x.OkM N := ⟨h.a, h.b⟩
theorem Guar.OkM.mono (hM : M ≤ N) {x : Guar} (h : x.OkM M) : x.OkM N := ⟨h.a, h.b, h.stop⟩
theorem Path.OkM.mono (hM : M ≤ N) {x : Path} (h : x.OkM M) : x.OkM N := ⟨h.a, h.b, h.secs⟩
theorem Prdt.OkM.mono (hM : M ≤ N) {x : Prdt} (h : x.OkM M) : x.OkM N := ⟨Nat.le_trans h.id hM, h.price, h.rides, h.zones, h.secs, h.modes⟩
theorem Timetable.OkM.mono (hM : M ≤ N) {x : Timetable} (h : x.OkM M) : x.OkM N where
  stops := ⟨Nat.le_trans h.stops.1 hM, fun y hy => Stop.OkM.mono hM (h.stops.2 y hy)⟩
  routes := ⟨Nat.le_trans h.routes.1 hM, fun y hy => Route.OkM.mono hM (h.routes.2 y hy)⟩
  cals := ⟨Nat.le_trans h.cals.1 hM, fun y hy => Cal.OkM.mono hM (h.cals.2 y hy)⟩
  excs := ⟨Nat.le_trans h.excs.1 hM, fun y hy => Exc.OkM.mono hM (h.excs.2 y hy)⟩
  trips := ⟨Nat.le_trans h.trips.1 hM, fun y hy => Trip.OkM.mono hM (h.trips.2 y hy)⟩
  freqs := ⟨Nat.le_trans h.freqs.1 hM, fun y hy => Freq.OkM.mono hM (h.freqs.2 y hy)⟩
  thrs := ⟨Nat.le_trans h.thrs.1 hM, fun y hy => Thr.OkM.mono hM (h.thrs.2 y hy)⟩
  guars := ⟨Nat.le_trans h.guars.1 hM, fun y hy => Guar.OkM.mono hM (h.guars.2 y hy)⟩
  paths := ⟨Nat.le_trans h.paths.1 hM, fun y hy => Path.OkM.mono hM (h.paths.2 y hy)⟩
  prods := ⟨Nat.le_trans h.prods.1 hM, fun y hy => Prdt.OkM.mono hM (h.prods.2 y hy)⟩
  disc := h.disc
  within := h.within
  cap := h.cap
end
end Go.Ab.Tt
