/- What it means that a value of the model is as an abstract one says, and that the model's memory is as an abstract memory says. -/
import Derived.Test.YtnbhhepiekhbjaaGreatAbEval
import Derived.Below
set_option linter.unusedVariables false
namespace Go.Ab
open Go.RowKit (Below)

abbrev Ro := Nat → Option Obj
structure Bel (B : Nat) (w w' : World) : Prop extends Below B w w' where
  drawn : w.drawn ≤ w'.drawn
namespace Bel
theorem refl (B : Nat) (w : World) : Bel B w w := ⟨Below.refl B w, Nat.le_refl _⟩
theorem trans {B : Nat} {a b c : World} (h : Bel B a b) (k : Bel B b c) : Bel B a c := ⟨h.toBelow.trans k.toBelow, Nat.le_trans h.drawn k.drawn⟩
theorem mono {B B' : Nat} {w w' : World} (h : Bel B w w') (hB : B' ≤ B) : Bel B' w w' := ⟨h.toBelow.mono hB, h.drawn⟩
theorem drew {B : Nat} {a w : World} (h : Bel B a w) : Bel B a w.drew := ⟨h.toBelow.drew, Nat.le_succ_of_le h.drawn⟩
theorem heap_alloc (w : World) (o : Obj) (k : Nat) (h : k < w.heap.size) : (w.alloc o).heap[k]? = w.heap[k]? := Below.heap_alloc w o k h
theorem alloc {B : Nat} {a w : World} (h : Bel B a w) (hB : B ≤ w.heap.size) (o : Obj) : Bel B a (w.alloc o) := ⟨h.toBelow.alloc hB o, h.drawn⟩
end Bel
def Jmp.code : Jmp → Code
  | .ret => .ret
  | .exit id => .exit id
def LSt.obj (rc : Loop) : LSt → Loop
  | .ready => { rc with state := .ready, pending := none }
  | .busy => { rc with state := .busy, pending := none }
  | .done j => { rc with state := .done, pending := some j.code }
def cellAt (μ : Ro) (b o : Nat) : Option Value := match μ b with | some (.cells c _ _) => c[o]? | _ => none

inductive RepPV (P : Program) (μ : Ro) : PV → Value → Prop
  | int {k : IntKind} {n : Int} : (Lit.int k n).wf = true → RepPV P μ (.int k n) (.int k n)
  | bool {b : Bool} : RepPV P μ (.bool b) (.bool b)
  | str {s : Bytes} : s.length ≤ maxLen → RepPV P μ (.str s) (.string ⟨s.toArray⟩)
  | agg {cs : List PV} {xs : Array Value} : cs.length = xs.size → (∀ (i : Nat) p x, cs[i]? = some p → xs[i]? = some x → RepPV P μ p x) →
      (∀ (i : Nat) (x : Value), xs[i]? = some x → x.oneCell' = true) → RepPV P μ (.agg cs) (.agg xs)
  | tup {cs : List PV} {xs : Array Value} : cs.length = xs.size → (∀ (i : Nat) p x, cs[i]? = some p → xs[i]? = some x → RepPV P μ p x) → RepPV P μ (.tup cs) (.tuple xs)
  | nilp : RepPV P μ .nilp (.pointer none)
  | rp {cs : List PV} {b o : Nat} (X : Nat → Value) : (∀ (i : Nat) p, cs[i]? = some p → cellAt μ b (o + i) = some (X i)) → (∀ (i : Nat) p, cs[i]? = some p → RepPV P μ p (X i)) →
      (∀ i : Nat, i < cs.length → (X i).oneCell' = true) → RepPV P μ (.rp cs) (.pointer (some ⟨b, o, none⟩))
  | rsNil {sz : Nat} : RepPV P μ (.rs sz []) (.slice none 0 0)
  | rsE {sz cap : Nat} {a : Addr} : cap ≤ maxLen → RepPV P μ (.rs sz []) (.slice (some a) 0 cap)
  | rs {sz : Nat} {es : List PV} {b o cap : Nat} (X : Nat → Nat → Value) : es.length ≤ cap → cap ≤ maxLen → (∀ (i : Nat) e, es[i]? = some e → e.cells.length = sz) →
      (∀ (i : Nat) e (j : Nat) p, es[i]? = some e → e.cells[j]? = some p → cellAt μ b (o + i * sz + j) = some (X i j)) →
      (∀ (i : Nat) e (j : Nat) p, es[i]? = some e → e.cells[j]? = some p → RepPV P μ p (X i j)) →
      (∀ (i : Nat) e (j : Nat) p, es[i]? = some e → e.cells[j]? = some p → (X i j).oneCell' = true) →
      RepPV P μ (.rs sz es) (.slice (some ⟨b, o, none⟩) es.length cap)
  | nilm : RepPV P μ .nilm (.map none)
  | rm {kt : TypeId} {ks vs : List PV} {b clock : Nat} {en : Array MapEntry} {kk : List Kd} : μ b = some (.map en clock) → en.size = ks.length → vs.length = ks.length → kdsOf P kt = some kk →
      (∀ (i : Nat) k, ks[i]? = some k → keyOk P kt kk k = true) →
      (∀ (i : Nat) k e, ks[i]? = some k → en[i]? = some e → RepPV P μ k e.key) → (∀ (i : Nat) v e, vs[i]? = some v → en[i]? = some e → RepPV P μ v e.val) → RepPV P μ (.rm kt ks vs) (.map (some b))
  | nilf : RepPV P μ .nilf .nilFunc
  | fn {f : FuncId} {cs : List PV} {xs : Array Value} : cs.length = xs.size → (∀ (i : Nat) p x, cs[i]? = some p → xs[i]? = some x → RepPV P μ p x) → RepPV P μ (.fn f cs) (.func (.func f) #[] xs)
  | bad {x : Value} : RepPV P μ .bad x

structure Phys where
  g : Option Nat
  cap : Nat
  len : Nat
  sz : Nat
  deriving Inhabited

inductive RepV (P : Program) (μ : Ro) (φ : Nat → Phys) : V → Value → Prop
  | pv {p : PV} {x : Value} : RepPV P μ p x → RepV P μ φ (.pv p) x
  | nils : RepV P μ φ .nils (.slice none 0 0)
  | op {id off g : Nat} : (φ id).g = some g → RepV P μ φ (.op id off) (.pointer (some ⟨g, off, none⟩))
  | oe {id i off g : Nat} : (φ id).g = some g → RepV P μ φ (.oe id i off) (.pointer (some ⟨g, i * (φ id).sz + off, none⟩))
  | osN {id : Nat} : (φ id).g = none → RepV P μ φ (.os id) (.slice none 0 0)
  | os {id g : Nat} : (φ id).g = some g → RepV P μ φ (.os id) (.slice (some ⟨g, 0, none⟩) (φ id).len (φ id).cap)
  | osubN {id : Nat} : (φ id).g = none → RepV P μ φ (.osub id 0 0) (.slice none 0 0)
  | osub {id lo len g : Nat} {a : Addr} : (φ id).g = some g → lo + len ≤ (φ id).len → (a = ⟨g, lo * (φ id).sz, none⟩ ∨ (φ id).cap = lo) →
      RepV P μ φ (.osub id lo len) (.slice (some a) len ((φ id).cap - lo))
  | om {id g : Nat} : (φ id).g = some g → RepV P μ φ (.om id) (.map (some g))
  | yl {id g : Nat} : (φ id).g = some g → RepV P μ φ (.yl id) (.func (.yield g) #[] #[])
  | fn {f : FuncId} {cs : List V} {xs : Array Value} : cs.length = xs.size → (∀ (i : Nat) p x, cs[i]? = some p → xs[i]? = some x → RepV P μ φ p x) → RepV P μ φ (.fn f cs) (.func (.func f) #[] xs)
  | agg {cs : List V} {xs : Array Value} : cs.length = xs.size → (∀ (i : Nat) p x, cs[i]? = some p → xs[i]? = some x → RepV P μ φ p x) →
      (∀ (i : Nat) (x : Value), xs[i]? = some x → x.oneCell' = true) → RepV P μ φ (.agg cs) (.agg xs)
  | tup {cs : List V} {xs : Array Value} : cs.length = xs.size → (∀ (i : Nat) p x, cs[i]? = some p → xs[i]? = some x → RepV P μ φ p x) → RepV P μ φ (.tup cs) (.tuple xs)
  | top {x : Value} : RepV P μ φ .top x

def RepArr (P : Program) (μ : Ro) (φ : Nat → Phys) (w : World) (id sz : Nat) (et : TypeId) (es : List PV) : Prop :=
  (φ id).len = es.length ∧ (φ id).sz = sz ∧ sz = csz P et ∧ 0 < sz ∧ (∀ (i : Nat) e, es[i]? = some e → e.cells.length = sz) ∧ (φ id).cap ≤ maxLen ∧
  match (φ id).g with
  | none => es = [] ∧ (φ id).cap = 0
  | some g => ∃ c : Array Value, w.heap[g]? = some (.cells c et (0, 0)) ∧ c.size = (φ id).cap * sz ∧ es.length ≤ (φ id).cap ∧
      (∀ (i : Nat) e (j : Nat) p x, es[i]? = some e → e.cells[j]? = some p → c[i * sz + j]? = some x → RepPV P μ p x) ∧ (∀ (i : Nat) (x : Value), i < es.length * sz → c[i]? = some x → x.oneCell' = true)

def RepB (P : Program) (μ : Ro) (φ : Nat → Phys) (w : World) (id : Nat) : Blk → Prop
  | .box cs => ∃ (g : Nat) (c : Array Value) (T : TypeId), (φ id).g = some g ∧ w.heap[g]? = some (.cells c T (0, 0)) ∧ c.size = cs.length ∧
      (∀ (i : Nat) v x, cs[i]? = some v → c[i]? = some x → RepV P μ φ v x) ∧ (∀ (i : Nat) (x : Value), c[i]? = some x → x.oneCell' = true) ∧ (φ id).len = cs.length
  | .arr sz et es => RepArr P μ φ w id sz et es
  | .fro sz et es => RepArr P μ φ w id sz et es ∧ ∀ g, (φ id).g = some g → (μ g).isSome
  | .map kt es => ∃ (g : Nat) (en : Array MapEntry) (clock : Nat) (kk : List Kd), (φ id).g = some g ∧ w.heap[g]? = some (.map en clock) ∧ en.size = es.length ∧ kdsOf P kt = some kk ∧
      (∀ (i : Nat) k v, es[i]? = some (k, v) → keyOk P kt kk k = true) ∧
      (∀ (i : Nat) k v e, es[i]? = some (k, v) → en[i]? = some e → RepPV P μ k e.key ∧ RepPV P μ v e.val)
  | .loop st => ∃ (g : Nat) (rc : Loop), (φ id).g = some g ∧ w.heap[g]? = some (.loop (st.obj rc))

def Blk.mutable : Blk → Bool
  | .fro .. => false
  | _ => true
structure Base where
  w : World
  mu : Ro
  sv : Nat → Value
  keep : Ro := fun _ => none
  old : Ro := fun _ => none
  rc : Nat → Option (Nat × Loop) := fun _ => none
abbrev Base.heap (B : Base) : Array Obj := B.w.heap

structure RelM (P : Program) (G : Nat → Option (List PV)) (w0 : Base) (μ : Ro) (φ : Nat → Phys) (m : Mem) (w : World) : Prop where
  below : Bel w0.heap.size w0.w w
  ro : ∀ b o, μ b = some o → w.heap[b]? = some o
  glob : ∀ g cs, G g = some cs → RepPV P μ (.rp cs) (.pointer (some ⟨g, 0, none⟩))
  blk : ∀ id b, m id = some b → RepB P μ φ w id b
  own : ∀ id b g, m id = some b → (φ id).g = some g → w0.heap.size ≤ g ∧ (b.mutable = true → μ g = none)
  inj : ∀ id1 id2 b1 b2 g, m id1 = some b1 → m id2 = some b2 → (φ id1).g = some g → (φ id2).g = some g → id1 = id2
  liveB : ∀ j cs id, m j = some (.box cs) → hasL id cs = true → (m id).isSome = true
  base : ∀ b o, μ b = some o → b < w0.heap.size → w0.mu b = some o
  keep : ∀ b o, w0.keep b = some o → μ b = some o
  lps : ∀ id st, m id = some (.loop st) → ∃ g rc, (φ id).g = some g ∧ w0.rc id = some (g, rc) ∧ w.heap[g]? = some (.loop (st.obj rc))
def slots (nt : Nat) (w0 : Base) (a : Act) : Nat → Value := fun t => if t < nt then a.tmps.getD t undef else w0.sv t
theorem slots_lt {nt : Nat} {w0 : Base} {a : Act} {t : Nat} (h : t < nt) : slots nt w0 a t = a.tmps.getD t undef := if_pos h
def Marks (B : Nat) (old μ : Ro) (ds : List Deferred) : Prop := ∃ Ds : List Nat, ds = Ds.map (fun D => { target := .collected D, args := #[] }) ∧ Ds.Nodup ∧ ∀ D ∈ Ds, B ≤ D ∧ old D = none ∧ μ D = some (.deferred (some []))
theorem Marks.nil (B : Nat) (old μ : Ro) : Marks B old μ [] := ⟨[], rfl, .nil, by simp⟩
theorem Marks.mono {B : Nat} {old μ μ' : Ro} (h : ∀ b o, μ b = some o → μ' b = some o) {ds : List Deferred} : Marks B old μ ds → Marks B old μ' ds
  | ⟨Ds, e, hn, hD⟩ => ⟨Ds, e, hn, fun D hd => ⟨(hD D hd).1, (hD D hd).2.1, h _ _ (hD D hd).2.2⟩⟩

structure Rel (P : Program) (G : Nat → Option (List PV)) (nt : Nat) (w0 : Base) (μ : Ro) (φ : Nat → Phys) (f : Fr) (m : Mem) (a : Act) (w : World) : Prop extends RelM P G w0 μ φ m w where
  size : a.tmps.size = nt
  defers : Marks w0.heap.size w0.old μ a.defers
  old : ∀ b o, w0.old b = some o → w0.keep b = some o
  fr : ∀ t, RepV P μ φ (f t) (slots nt w0 a t)
  live : ∀ t id, (f t).has id = true → (m id).isSome = true
section
variable {P : Program} {μ μ' : Ro} {φ φ' : Nat → Phys}

theorem cellAt_mono (h : ∀ b o, μ b = some o → μ' b = some o) {b o : Nat} {x : Value} (hx : cellAt μ b o = some x) : cellAt μ' b o = some x := by
  unfold cellAt at *
  split at hx
  · rename_i c t fz hb
    rw [h _ _ hb]; exact hx
  · cases hx

theorem RepPV.mono (h : ∀ b o, μ b = some o → μ' b = some o) {p : PV} {x : Value} (hp : RepPV P μ p x) : RepPV P μ' p x := by
  induction hp with
  | int h => exact .int h
  | bool => exact .bool
  | str h => exact .str h
  | agg h1 _ h3 ih => exact .agg h1 ih h3
  | tup h1 _ ih => exact .tup h1 ih
  | nilp => exact .nilp
  | rp X h1 _ h3 ih => exact .rp X (fun i p hi => cellAt_mono h (h1 i p hi)) ih h3
  | rsNil => exact .rsNil
  | rsE h => exact .rsE h
  | rs X h1 h2 h3 h4 _ h6 ih => exact .rs X h1 h2 h3 (fun i e j p hi hj => cellAt_mono h (h4 i e j p hi hj)) ih h6
  | nilm => exact .nilm
  | rm h1 h2 h3 h4 h5 _ _ ih1 ih2 => exact .rm (h _ _ h1) h2 h3 h4 h5 ih1 ih2
  | nilf => exact .nilf
  | fn h1 _ ih => exact .fn h1 ih
  | bad => exact .bad

theorem hasL_mem {id : Nat} {v : V} : ∀ {cs : List V}, v ∈ cs → v.has id = true → hasL id cs = true
  | c :: r, hm, hv => by
    rcases List.mem_cons.1 hm with rfl | hm
    · simp [hasL, hv]
    · simp [hasL, hasL_mem hm hv]

theorem hasL_iff {id : Nat} : ∀ {cs : List V}, hasL id cs = true ↔ ∃ v ∈ cs, v.has id = true
  | [] => by simp [hasL]
  | c :: r => by simp [hasL, hasL_iff (cs := r)]

theorem RepV.mono (h : ∀ b o, μ b = some o → μ' b = some o) {v : V} {x : Value} (hv : RepV P μ φ v x) (hφ : ∀ id, v.has id = true → φ' id = φ id) : RepV P μ' φ' v x := by
  induction hv with
  | pv hp => exact .pv (hp.mono h)
  | nils => exact .nils
  | op hg => exact .op (by rw [hφ _ (by simp [V.has])]; exact hg)
  | @oe id i off g hg =>
    have e := hφ id (by simp [V.has])
    have := RepV.oe (P := P) (μ := μ') (φ := φ') (id := id) (i := i) (off := off) (g := g) (by rw [e]; exact hg)
    rw [e] at this; exact this
  | @osN id hg => exact .osN (by rw [hφ id (by simp [V.has])]; exact hg)
  | @os id g hg =>
    have e := hφ id (by simp [V.has])
    have := RepV.os (P := P) (μ := μ') (φ := φ') (id := id) (g := g) (by rw [e]; exact hg)
    rw [e] at this; exact this
  | @osubN id hg => exact .osubN (by rw [hφ id (by simp [V.has])]; exact hg)
  | @osub id lo len g a hg hl ha =>
    have e := hφ id (by simp [V.has])
    have := RepV.osub (P := P) (μ := μ') (φ := φ') (id := id) (lo := lo) (len := len) (g := g) (a := a) (by rw [e]; exact hg) (by rw [e]; exact hl) (by rw [e]; exact ha)
    rw [e] at this; exact this
  | @om id g hg => exact .om (by rw [hφ id (by simp [V.has])]; exact hg)
  | @yl id g hg => exact .yl (by rw [hφ id (by simp [V.has])]; exact hg)
  | fn h1 _ ih => exact .fn h1 (fun i p x hi hx => ih i p x hi hx (fun id hid => hφ id (by simp only [V.has]; exact hasL_mem (List.mem_of_getElem? hi) hid)))
  | agg h1 _ h3 ih => exact .agg h1 (fun i p x hi hx => ih i p x hi hx (fun id hid => hφ id (by simp only [V.has]; exact hasL_mem (List.mem_of_getElem? hi) hid))) h3
  | tup h1 _ ih => exact .tup h1 (fun i p x hi hx => ih i p x hi hx (fun id hid => hφ id (by simp only [V.has]; exact hasL_mem (List.mem_of_getElem? hi) hid)))
  | top => exact .top

theorem RepV.monoR (h : ∀ b o, μ b = some o → μ' b = some o) {v : V} {x : Value} (hv : RepV P μ φ v x) : RepV P μ' φ v x := hv.mono h fun _ _ => rfl

theorem RepV.kill {v : V} {x : Value} (id : Nat) (hv : RepV P μ φ v x) : RepV P μ φ (killV id v) x := by
  unfold killV
  cases v.has id <;> simp
  · exact hv
  · exact .top
theorem has_kill {id j : Nat} {v : V} (h : (killV id v).has j = true) : v.has j = true ∧ j ≠ id := by
  unfold killV at h
  cases hv : v.has id <;> simp [hv, V.has] at h
  · refine ⟨h, fun e => ?_⟩
    subst e; rw [h] at hv; cases hv
end
end Go.Ab
