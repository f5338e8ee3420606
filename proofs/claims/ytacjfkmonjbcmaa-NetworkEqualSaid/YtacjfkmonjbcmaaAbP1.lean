/- What it means that a value of the model is as an abstract one says, and that the model's memory is as an abstract memory says. -/
import Derived.Test.YtacjfkmonjbcmaaAbEval
import Derived.Below
import Derived.Laws.CopyRow
import Derived.Deep.MidRow
set_option linter.unusedVariables false
namespace Go.Ab
open Go.RowKit (Below)

abbrev Ro := Nat → Option Obj
def drawsUp : Bool := true
structure Bel (B : Nat) (w w' : World) : Prop extends Below B w w' where
  drawn : drawsUp = true → w.drawn ≤ w'.drawn
namespace Bel
theorem refl (B : Nat) (w : World) : Bel B w w := ⟨Below.refl B w, fun _ => Nat.le_refl _⟩
theorem trans {B : Nat} {a b c : World} (h : Bel B a b) (k : Bel B b c) : Bel B a c := ⟨h.toBelow.trans k.toBelow, fun u => Nat.le_trans (h.drawn u) (k.drawn u)⟩
theorem mono {B B' : Nat} {w w' : World} (h : Bel B w w') (hB : B' ≤ B) : Bel B' w w' := ⟨h.toBelow.mono hB, h.drawn⟩
theorem drew {B : Nat} {a w : World} (h : Bel B a w) : Bel B a w.drew := ⟨h.toBelow.drew, fun u => Nat.le_succ_of_le (h.drawn u)⟩
theorem heap_alloc (w : World) (o : Obj) (k : Nat) (h : k < w.heap.size) : (w.alloc o).heap[k]? = w.heap[k]? := Below.heap_alloc w o k h
theorem alloc {B : Nat} {a w : World} (h : Bel B a w) (hB : B ≤ w.heap.size) (o : Obj) : Bel B a (w.alloc o) := ⟨h.toBelow.alloc hB o, h.drawn⟩
end Bel
def Jmp.code : Jmp → Code
  | .ret => .ret
  | .exit id => .exit id
def LSt.obj (rc : Loop) : LSt → Loop
  | .ready => { rc with state := .ready, pending := none }
  | .busy => { rc with state := .busy, pending := none }
  | .done j => { rc with state := .done, pending := some j.code }
def cellAt (μ : Ro) (b o : Nat) : Option Value := match μ b with | some (.cells c _ _) => c[o]? | _ => none

inductive RepPV (P : Program) (μ : Ro) : PV → Value → Prop
  | int {k : IntKind} {n : Int} : (Lit.int k n).wf = true → RepPV P μ (.int k n) (.int k n)
  | bool {b : Bool} : RepPV P μ (.bool b) (.bool b)
  | str {s : Bytes} : s.length ≤ maxLen → RepPV P μ (.str s) (.string ⟨s.toArray⟩)
  | agg {cs : List PV} {xs : Array Value} : cs.length = xs.size → (∀ (i : Nat) p x, cs[i]? = some p → xs[i]? = some x → RepPV P μ p x) →
      (∀ (i : Nat) (x : Value), xs[i]? = some x → x.oneCell' = true) → RepPV P μ (.agg cs) (.agg xs)
  | tup {cs : List PV} {xs : Array Value} : cs.length = xs.size → (∀ (i : Nat) p x, cs[i]? = some p → xs[i]? = some x → RepPV P μ p x) → RepPV P μ (.tup cs) (.tuple xs)
  | nilp : RepPV P μ .nilp (.pointer none)
  | rp {cs : List PV} {b o : Nat} (X : Nat → Value) : (∀ (i : Nat) p, cs[i]? = some p → cellAt μ b (o + i) = some (X i)) → (∀ (i : Nat) p, cs[i]? = some p → RepPV P μ p (X i)) →
      (∀ i : Nat, i < cs.length → (X i).oneCell' = true) → RepPV P μ (.rp cs) (.pointer (some ⟨b, o, none⟩))
  | rsNil {sz : Nat} : RepPV P μ (.rs sz []) (.slice none 0 0)
  | rsE {sz cap : Nat} {a : Addr} : cap ≤ maxLen → RepPV P μ (.rs sz []) (.slice (some a) 0 cap)
  | rs {sz : Nat} {es : List PV} {b o cap : Nat} (X : Nat → Nat → Value) : es.length ≤ cap → cap ≤ maxLen → (∀ (i : Nat) e, es[i]? = some e → e.cells.length = sz) →
      (∀ (i : Nat) e (j : Nat) p, es[i]? = some e → e.cells[j]? = some p → cellAt μ b (o + i * sz + j) = some (X i j)) →
      (∀ (i : Nat) e (j : Nat) p, es[i]? = some e → e.cells[j]? = some p → RepPV P μ p (X i j)) →
      (∀ (i : Nat) e (j : Nat) p, es[i]? = some e → e.cells[j]? = some p → (X i j).oneCell' = true) →
      RepPV P μ (.rs sz es) (.slice (some ⟨b, o, none⟩) es.length cap)
  | nilm : RepPV P μ .nilm (.map none)
  | rm {kt : TypeId} {ks vs : List PV} {b clock : Nat} {en : Array MapEntry} {kk : List Kd} : μ b = some (.map en clock) → en.size = ks.length → vs.length = ks.length → kdsOf P kt = some kk →
      (∀ (i : Nat) k, ks[i]? = some k → keyOk P kt kk k = true) →
      (∀ (i : Nat) k e, ks[i]? = some k → en[i]? = some e → RepPV P μ k e.key) → (∀ (i : Nat) v e, vs[i]? = some v → en[i]? = some e → RepPV P μ v e.val) → RepPV P μ (.rm kt ks vs) (.map (some b))
  | nilf : RepPV P μ .nilf .nilFunc
  | fn {f : FuncId} {cs : List PV} {xs : Array Value} : cs.length = xs.size → (∀ (i : Nat) p x, cs[i]? = some p → xs[i]? = some x → RepPV P μ p x) → RepPV P μ (.fn f cs) (.func (.func f) #[] xs)
  | ifcN : RepPV P μ (.ifc false) .nilIface
  | ifcS {t : TypeId} {x : Value} : RepPV P μ (.ifc true) (.iface t x)
  | bad {x : Value} : RepPV P μ .bad x
structure VarIs (P : Program) (μ : Ro) (g : Nat) (cs : List PV) : Prop where
  rep : RepPV P μ (.rp cs) (.pointer (some ⟨g, 0, none⟩))
  size : ∃ c T z, μ g = some (.cells c T z) ∧ c.size = cs.length

structure Ph0 where
  g : Option Nat
  cap : Nat
  len : Nat
  sz : Nat
  deriving Inhabited
structure Phys extends Ph0 where
  row : Nat → Nat → Ph0 := fun _ _ => default
  deriving Inhabited
abbrev phy (g : Option Nat) (cap len sz : Nat) : Phys := { g, cap, len, sz }
def Ph0.up (p : Ph0) : Phys := { toPh0 := p }

inductive RepV (P : Program) (μ : Ro) (φ : Nat → Phys) : V → Value → Prop
  | pv {p : PV} {x : Value} : RepPV P μ p x → RepV P μ φ (.pv p) x
  | nils : RepV P μ φ .nils (.slice none 0 0)
  | op {id off g : Nat} : (φ id).g = some g → RepV P μ φ (.op id off) (.pointer (some ⟨g, off, none⟩))
  | oe {id i off g : Nat} : (φ id).g = some g → RepV P μ φ (.oe id i off) (.pointer (some ⟨g, i * (φ id).sz + off, none⟩))
  | osN {id : Nat} : (φ id).g = none → RepV P μ φ (.os id) (.slice none 0 0)
  | os {id g : Nat} : (φ id).g = some g → RepV P μ φ (.os id) (.slice (some ⟨g, 0, none⟩) (φ id).len (φ id).cap)
  | osubN {id : Nat} : (φ id).g = none → RepV P μ φ (.osub id 0 0) (.slice none 0 0)
  | osub {id lo len cap g : Nat} {a : Addr} : (φ id).g = some g → lo + len ≤ (φ id).len → (a = ⟨g, lo * (φ id).sz, none⟩ ∨ ((φ id).cap = lo ∧ 0 < lo)) → len ≤ cap → lo + cap ≤ (φ id).cap →
      RepV P μ φ (.osub id lo len) (.slice (some a) len cap)
  | os2N {id i off : Nat} : ((φ id).row i off).g = none → RepV P μ φ (.os2 id i off) (.slice none 0 0)
  | os2 {id i off g : Nat} : ((φ id).row i off).g = some g → RepV P μ φ (.os2 id i off) (.slice (some ⟨g, 0, none⟩) ((φ id).row i off).len ((φ id).row i off).cap)
  | oe2 {id i off s j off2 g : Nat} : ((φ id).row i off).g = some g → ((φ id).row i off).sz = s → RepV P μ φ (.oe2 id i off s j off2) (.pointer (some ⟨g, j * s + off2, none⟩))
  | om {id g : Nat} : (φ id).g = some g → RepV P μ φ (.om id) (.map (some g))
  | yl {id g : Nat} : (φ id).g = some g → RepV P μ φ (.yl id) (.func (.yield g) #[] #[])
  | it {id g : Nat} : (φ id).g = some g → RepV P μ φ (.it id) (.pointer (some ⟨g, 0, none⟩))
  | fn {f : FuncId} {cs : List V} {xs : Array Value} : cs.length = xs.size → (∀ (i : Nat) p x, cs[i]? = some p → xs[i]? = some x → RepV P μ φ p x) → RepV P μ φ (.fn f cs) (.func (.func f) #[] xs)
  | agg {cs : List V} {xs : Array Value} : cs.length = xs.size → (∀ (i : Nat) p x, cs[i]? = some p → xs[i]? = some x → RepV P μ φ p x) →
      (∀ (i : Nat) (x : Value), xs[i]? = some x → x.oneCell' = true) → RepV P μ φ (.agg cs) (.agg xs)
  | tup {cs : List V} {xs : Array Value} : cs.length = xs.size → (∀ (i : Nat) p x, cs[i]? = some p → xs[i]? = some x → RepV P μ φ p x) → RepV P μ φ (.tup cs) (.tuple xs)
  | top {x : Value} : RepV P μ φ .top x

def RepArr (P : Program) (μ : Ro) (φ : Nat → Phys) (w : World) (id sz : Nat) (et : TypeId) (es : List PV) : Prop :=
  (φ id).len = es.length ∧ (φ id).sz = sz ∧ sz = csz P et ∧ 0 < sz ∧ (∀ (i : Nat) e, es[i]? = some e → e.cells.length = sz) ∧ (φ id).cap ≤ maxLen ∧
  match (φ id).g with
  | none => es = [] ∧ (φ id).cap = 0
  | some g => ∃ c : Array Value, w.heap[g]? = some (.cells c et (0, 0)) ∧ (φ id).cap * sz ≤ c.size ∧ es.length ≤ (φ id).cap ∧
      (∀ (i : Nat) e (j : Nat) p x, es[i]? = some e → e.cells[j]? = some p → c[i * sz + j]? = some x → RepPV P μ p x) ∧ (∀ (i : Nat) (x : Value), i < es.length * sz → c[i]? = some x → x.oneCell' = true)
def Blk.rowAt : Blk → Nat → Nat → Bool
  | .nest _ _ es, i, off => match es[i]? with
    | some e => match e.cells[off]? with
      | some p => p.isRow
      | none => false
    | none => false
  | .mapN _ _ es, i, 0 => match es[i]? with
    | some x => x.2.isRow
    | none => false
  | _, _, _ => false
def RepRow (P : Program) (μ : Ro) (R : Ph0) (w : World) (s : Nat) (rs : List PV) (x : Value) : Prop := (∃ et, RepArr P μ (fun _ => R.up) w 0 s et rs) ∧ RepV P μ (fun _ => R.up) (.os 0) x
def RepCell (P : Program) (μ : Ro) (R : Ph0) (w : World) (p : PV) (x : Value) : Prop := match p with
  | .rsO s rs => RepRow P μ R w s rs x
  | p => RepPV P μ p x
def RepNest (P : Program) (μ : Ro) (φ : Nat → Phys) (w : World) (id sz : Nat) (et : TypeId) (es : List PV) : Prop :=
  (φ id).len = es.length ∧ (φ id).sz = sz ∧ sz = csz P et ∧ 0 < sz ∧ (∀ (i : Nat) e, es[i]? = some e → e.cells.length = sz) ∧ (φ id).cap ≤ maxLen ∧
  match (φ id).g with
  | none => es = [] ∧ (φ id).cap = 0
  | some g => ∃ c : Array Value, w.heap[g]? = some (.cells c et (0, 0)) ∧ (φ id).cap * sz ≤ c.size ∧ es.length ≤ (φ id).cap ∧
      (∀ (i : Nat) e (j : Nat) p x, es[i]? = some e → e.cells[j]? = some p → c[i * sz + j]? = some x → RepCell P μ ((φ id).row i j) w p x) ∧ (∀ (i : Nat) (x : Value), i < es.length * sz → c[i]? = some x → x.oneCell' = true)
def BornOk (en : Array MapEntry) (clock : Nat) : Prop := ∀ (i : Nat) e, en[i]? = some e → e.born < clock ∧ ∀ (j : Nat) e', en[j]? = some e' → e'.born = e.born → j = i
def leftE (en : Array MapEntry) (seen : Array Nat) : List MapEntry := en.toList.filter fun e => !seen.contains e.born
def RepB (P : Program) (μ : Ro) (φ : Nat → Phys) (w : World) (id : Nat) : Blk → Prop
  | .box cs => ∃ (g : Nat) (c : Array Value) (T : TypeId), (φ id).g = some g ∧ w.heap[g]? = some (.cells c T (0, 0)) ∧ c.size = cs.length ∧
      (∀ (i : Nat) v x, cs[i]? = some v → c[i]? = some x → RepV P μ φ v x) ∧ (∀ (i : Nat) (x : Value), c[i]? = some x → x.oneCell' = true) ∧ (φ id).len = cs.length
  | .arr sz et es => RepArr P μ φ w id sz et es
  | .fro sz et es => RepArr P μ φ w id sz et es ∧ ∀ g, (φ id).g = some g → (μ g).isSome
  | .map kt es => ∃ (g : Nat) (en : Array MapEntry) (clock : Nat) (kk : List Kd), (φ id).g = some g ∧ w.heap[g]? = some (.map en clock) ∧ en.size = es.length ∧ kdsOf P kt = some kk ∧
      (∀ (i : Nat) k v, es[i]? = some (k, v) → keyOk P kt kk k = true) ∧
      BornOk en clock ∧ (∀ (i : Nat) k v e, es[i]? = some (k, v) → en[i]? = some e → RepPV P μ k e.key ∧ RepPV P μ v e.val)
  | .nest sz et es => RepNest P μ φ w id sz et es
  | .mapN kt e0 es => ∃ (g : Nat) (en : Array MapEntry) (clock : Nat) (kk : List Kd), (φ id).g = some g ∧ w.heap[g]? = some (.map en clock) ∧ en.size = es.length ∧ kdsOf P kt = some kk ∧
      (∀ (i : Nat) k v, es[i]? = some (k, v) → keyOk P kt kk k = true) ∧
      BornOk en clock ∧ (∀ (i : Nat) k v e, es[i]? = some (k, v) → en[i]? = some e → RepPV P μ k e.key ∧ (match v with
        | .rsO s rs => RepArr P μ (fun _ => ((φ id).row i 0).up) w 0 s e0 rs ∧ RepV P μ (fun _ => ((φ id).row i 0).up) (.os 0) e.val
        | v => RepPV P μ v e.val))
  | .iter t es cur => ∃ (g mg : Nat) (en : Array MapEntry) (clock : Nat) (seen : Array Nat), (φ id).g = some g ∧ w.heap[g]? = some (.mapIter (some mg) clock seen clock) ∧ μ mg = some (.map en clock) ∧ BornOk en clock ∧ (leftE en seen).length = es.length ∧
      (∀ (i : Nat) k v e, es[i]? = some (k, v) → (leftE en seen)[i]? = some e → RepPV P μ k e.key ∧ RepPV P μ v e.val) ∧
      ∀ k v, cur = some (k, v) → ∃ (i : Nat) (e : MapEntry), en[i]? = some e ∧ seen.back? = some e.born ∧ RepPV P μ k e.key ∧ RepPV P μ v e.val
  | .loop st => ∃ (g : Nat) (rc : Loop), (φ id).g = some g ∧ w.heap[g]? = some (.loop (st.obj rc))

def Blk.mutable : Blk → Bool
  | .fro .. => false
  | _ => true
structure Base where
  w : World
  mu : Ro
  sv : Nat → Value
  keep : Ro := fun _ => none
  old : Ro := fun _ => none
  rc : Nat → Option (Nat × Loop) := fun _ => none
abbrev Base.heap (B : Base) : Array Obj := B.w.heap
def Blk.owns (b : Blk) (p : Phys) (g : Nat) : Prop := p.g = some g ∨ ∃ i off, b.rowAt i off = true ∧ (p.row i off).g = some g
def Blk.apart (b : Blk) (p : Phys) : Prop := ∀ i off g, b.rowAt i off = true → (p.row i off).g = some g → p.g ≠ some g ∧ ∀ i' off', b.rowAt i' off' = true → (p.row i' off').g = some g → i' = i ∧ off' = off

structure RelM (P : Program) (G : Nat → Option (List PV)) (w0 : Base) (μ : Ro) (φ : Nat → Phys) (m : Mem) (w : World) : Prop where
  below : Bel w0.heap.size w0.w w
  ro : ∀ b o, μ b = some o → w.heap[b]? = some o
  glob : ∀ g cs, G g = some cs → VarIs P μ g cs
  blk : ∀ id b, m id = some b → RepB P μ φ w id b
  own : ∀ id b g, m id = some b → b.owns (φ id) g → w0.heap.size ≤ g ∧ (b.mutable = true → μ g = none)
  inj : ∀ id1 id2 b1 b2 g, m id1 = some b1 → m id2 = some b2 → b1.owns (φ id1) g → b2.owns (φ id2) g → id1 = id2
  apart : ∀ id b, m id = some b → b.apart (φ id)
  liveB : ∀ j cs id, m j = some (.box cs) → hasL id cs = true → (m id).isSome = true
  base : ∀ b o, μ b = some o → b < w0.heap.size → w0.mu b = some o
  keep : ∀ b o, w0.keep b = some o → μ b = some o
  lps : ∀ id st, m id = some (.loop st) → ∃ g rc, (φ id).g = some g ∧ w0.rc id = some (g, rc) ∧ w.heap[g]? = some (.loop (st.obj rc))
def slots (nt : Nat) (w0 : Base) (a : Act) : Nat → Value := fun t => if t < nt then a.tmps.getD t undef else w0.sv t
theorem slots_lt {nt : Nat} {w0 : Base} {a : Act} {t : Nat} (h : t < nt) : slots nt w0 a t = a.tmps.getD t undef := if_pos h
def Marks (B : Nat) (old μ : Ro) (ds : List Deferred) : Prop := ∃ Ds : List Nat, ds = Ds.map (fun D => { target := .collected D, args := #[] }) ∧ Ds.Nodup ∧ ∀ D ∈ Ds, B ≤ D ∧ old D = none ∧ μ D = some (.deferred (some []))
theorem Marks.nil (B : Nat) (old μ : Ro) : Marks B old μ [] := ⟨[], rfl, .nil, by simp⟩
theorem Marks.mono {B : Nat} {old μ μ' : Ro} (h : ∀ b o, μ b = some o → μ' b = some o) {ds : List Deferred} : Marks B old μ ds → Marks B old μ' ds
  | ⟨Ds, e, hn, hD⟩ => ⟨Ds, e, hn, fun D hd => ⟨(hD D hd).1, (hD D hd).2.1, h _ _ (hD D hd).2.2⟩⟩

structure Rel (P : Program) (G : Nat → Option (List PV)) (nt : Nat) (w0 : Base) (μ : Ro) (φ : Nat → Phys) (f : Fr) (m : Mem) (a : Act) (w : World) : Prop extends RelM P G w0 μ φ m w where
  size : a.tmps.size = nt
  defers : Marks w0.heap.size w0.old μ a.defers
  old : ∀ b o, w0.old b = some o → w0.keep b = some o
  fr : ∀ t, RepV P μ φ (f t) (slots nt w0 a t)
  live : ∀ t id, (f t).has id = true → (m id).isSome = true
section
variable {P : Program} {μ μ' : Ro} {φ φ' : Nat → Phys}

theorem cellAt_mono (h : ∀ b o, μ b = some o → μ' b = some o) {b o : Nat} {x : Value} (hx : cellAt μ b o = some x) : cellAt μ' b o = some x := by
  unfold cellAt at *
  split at hx
  · rename_i c t fz hb
    rw [h _ _ hb]; exact hx
  · cases hx

theorem RepPV.mono (h : ∀ b o, μ b = some o → μ' b = some o) {p : PV} {x : Value} (hp : RepPV P μ p x) : RepPV P μ' p x := by
  induction hp with
  | int h => exact .int h
  | bool => exact .bool
  | str h => exact .str h
  | agg h1 _ h3 ih => exact .agg h1 ih h3
  | tup h1 _ ih => exact .tup h1 ih
  | nilp => exact .nilp
  | rp X h1 _ h3 ih => exact .rp X (fun i p hi => cellAt_mono h (h1 i p hi)) ih h3
  | rsNil => exact .rsNil
  | rsE h => exact .rsE h
  | rs X h1 h2 h3 h4 _ h6 ih => exact .rs X h1 h2 h3 (fun i e j p hi hj => cellAt_mono h (h4 i e j p hi hj)) ih h6
  | nilm => exact .nilm
  | rm h1 h2 h3 h4 h5 _ _ ih1 ih2 => exact .rm (h _ _ h1) h2 h3 h4 h5 ih1 ih2
  | nilf => exact .nilf
  | fn h1 _ ih => exact .fn h1 ih
  | ifcN => exact .ifcN
  | ifcS => exact .ifcS
  | bad => exact .bad

theorem VarIs.mono (h : ∀ b o, μ b = some o → μ' b = some o) {g : Nat} {cs : List PV} (hv : VarIs P μ g cs) : VarIs P μ' g cs :=
  ⟨hv.rep.mono h, let ⟨c, T, z, h1, h2⟩ := hv.size; ⟨c, T, z, h _ _ h1, h2⟩⟩

theorem hasL_mem {id : Nat} {v : V} : ∀ {cs : List V}, v ∈ cs → v.has id = true → hasL id cs = true
  | c :: r, hm, hv => by
    rcases List.mem_cons.1 hm with rfl | hm
    · simp [hasL, hv]
    · simp [hasL, hasL_mem hm hv]

theorem hasL_iff {id : Nat} : ∀ {cs : List V}, hasL id cs = true ↔ ∃ v ∈ cs, v.has id = true
  | [] => by simp [hasL]
  | c :: r => by simp [hasL, hasL_iff (cs := r)]

theorem hasL2_mem {id : Nat} {v : V} : ∀ {cs : List V}, v ∈ cs → v.has2 id = true → hasL2 id cs = true
  | c :: r, hm, hv => by
    rcases List.mem_cons.1 hm with rfl | hm
    · simp [hasL2, hv]
    · simp [hasL2, hasL2_mem hm hv]
theorem RepV.mono (h : ∀ b o, μ b = some o → μ' b = some o) {v : V} {x : Value} (hv : RepV P μ φ v x) (hφ : ∀ id, v.has id = true → φ' id = φ id) : RepV P μ' φ' v x := by
  induction hv with
  | pv hp => exact .pv (hp.mono h)
  | nils => exact .nils
  | op hg => exact .op (by rw [hφ _ (by simp [V.has])]; exact hg)
  | @oe id i off g hg =>
    have e := hφ id (by simp [V.has])
    have := RepV.oe (P := P) (μ := μ') (φ := φ') (id := id) (i := i) (off := off) (g := g) (by rw [e]; exact hg)
    rw [e] at this; exact this
  | @osN id hg => exact .osN (by rw [hφ id (by simp [V.has])]; exact hg)
  | @os id g hg =>
    have e := hφ id (by simp [V.has])
    have := RepV.os (P := P) (μ := μ') (φ := φ') (id := id) (g := g) (by rw [e]; exact hg)
    rw [e] at this; exact this
  | @osubN id hg => exact .osubN (by rw [hφ id (by simp [V.has])]; exact hg)
  | @osub id lo len cap g a hg hl ha hc hc' =>
    have e := hφ id (by simp [V.has])
    exact RepV.osub (P := P) (μ := μ') (φ := φ') (id := id) (lo := lo) (len := len) (cap := cap) (g := g) (a := a) (by rw [e]; exact hg) (by rw [e]; exact hl) (by rw [e]; exact ha) hc (by rw [e]; exact hc')
  | @os2N id i off hg => exact .os2N (by rw [hφ id (by simp [V.has])]; exact hg)
  | @os2 id i off g hg =>
    have e := hφ id (by simp [V.has])
    have := RepV.os2 (P := P) (μ := μ') (φ := φ') (id := id) (i := i) (off := off) (g := g) (by rw [e]; exact hg)
    rw [e] at this; exact this
  | @oe2 id i off s j off2 g hg hs =>
    have e := hφ id (by simp [V.has])
    exact .oe2 (by rw [e]; exact hg) (by rw [e]; exact hs)
  | @om id g hg => exact .om (by rw [hφ id (by simp [V.has])]; exact hg)
  | @yl id g hg => exact .yl (by rw [hφ id (by simp [V.has])]; exact hg)
  | @it id g hg => exact .it (by rw [hφ id (by simp [V.has])]; exact hg)
  | fn h1 _ ih => exact .fn h1 (fun i p x hi hx => ih i p x hi hx (fun id hid => hφ id (by simp only [V.has]; exact hasL_mem (List.mem_of_getElem? hi) hid)))
  | agg h1 _ h3 ih => exact .agg h1 (fun i p x hi hx => ih i p x hi hx (fun id hid => hφ id (by simp only [V.has]; exact hasL_mem (List.mem_of_getElem? hi) hid))) h3
  | tup h1 _ ih => exact .tup h1 (fun i p x hi hx => ih i p x hi hx (fun id hid => hφ id (by simp only [V.has]; exact hasL_mem (List.mem_of_getElem? hi) hid)))
  | top => exact .top

theorem RepV.mono2 (h : ∀ b o, μ b = some o → μ' b = some o) {v : V} {x : Value} (hv : RepV P μ φ v x) (hφ : ∀ id, v.has id = true → (φ' id).toPh0 = (φ id).toPh0 ∧ (v.has2 id = true → φ' id = φ id)) : RepV P μ' φ' v x := by
  induction hv with
  | pv hp => exact .pv (hp.mono h)
  | nils => exact .nils
  | op hg => exact .op (by rw [(hφ _ (by simp [V.has])).1]; exact hg)
  | @oe id i off g hg =>
    have e := (hφ id (by simp [V.has])).1
    have := RepV.oe (P := P) (μ := μ') (φ := φ') (id := id) (i := i) (off := off) (g := g) (by rw [e]; exact hg)
    rw [e] at this; exact this
  | @osN id hg => exact .osN (by rw [(hφ id (by simp [V.has])).1]; exact hg)
  | @os id g hg =>
    have e := (hφ id (by simp [V.has])).1
    have := RepV.os (P := P) (μ := μ') (φ := φ') (id := id) (g := g) (by rw [e]; exact hg)
    rw [e] at this; exact this
  | @osubN id hg => exact .osubN (by rw [(hφ id (by simp [V.has])).1]; exact hg)
  | @osub id lo len cap g a hg hl ha hc hc' =>
    have e := (hφ id (by simp [V.has])).1
    exact RepV.osub (P := P) (μ := μ') (φ := φ') (id := id) (lo := lo) (len := len) (cap := cap) (g := g) (a := a) (by rw [e]; exact hg) (by rw [e]; exact hl) (by rw [e]; exact ha) hc (by rw [e]; exact hc')
  | @os2N id i off hg => exact .os2N (by rw [(hφ id (by simp [V.has])).2 (by simp [V.has2])]; exact hg)
  | @os2 id i off g hg =>
    have e := (hφ id (by simp [V.has])).2 (by simp [V.has2])
    have := RepV.os2 (P := P) (μ := μ') (φ := φ') (id := id) (i := i) (off := off) (g := g) (by rw [e]; exact hg)
    rw [e] at this; exact this
  | @oe2 id i off s j off2 g hg hs =>
    have e := (hφ id (by simp [V.has])).2 (by simp [V.has2])
    exact .oe2 (by rw [e]; exact hg) (by rw [e]; exact hs)
  | @om id g hg => exact .om (by rw [(hφ id (by simp [V.has])).1]; exact hg)
  | @yl id g hg => exact .yl (by rw [(hφ id (by simp [V.has])).1]; exact hg)
  | @it id g hg => exact .it (by rw [(hφ id (by simp [V.has])).1]; exact hg)
  | fn h1 _ ih => exact .fn h1 (fun i p x hi hx => ih i p x hi hx (fun id hid => ⟨(hφ id (by simp only [V.has]; exact hasL_mem (List.mem_of_getElem? hi) hid)).1, fun h2 => (hφ id (by simp only [V.has]; exact hasL_mem (List.mem_of_getElem? hi) hid)).2 (by simp only [V.has2]; exact hasL2_mem (List.mem_of_getElem? hi) h2)⟩))
  | agg h1 _ h3 ih => exact .agg h1 (fun i p x hi hx => ih i p x hi hx (fun id hid => ⟨(hφ id (by simp only [V.has]; exact hasL_mem (List.mem_of_getElem? hi) hid)).1, fun h2 => (hφ id (by simp only [V.has]; exact hasL_mem (List.mem_of_getElem? hi) hid)).2 (by simp only [V.has2]; exact hasL2_mem (List.mem_of_getElem? hi) h2)⟩)) h3
  | tup h1 _ ih => exact .tup h1 (fun i p x hi hx => ih i p x hi hx (fun id hid => ⟨(hφ id (by simp only [V.has]; exact hasL_mem (List.mem_of_getElem? hi) hid)).1, fun h2 => (hφ id (by simp only [V.has]; exact hasL_mem (List.mem_of_getElem? hi) hid)).2 (by simp only [V.has2]; exact hasL2_mem (List.mem_of_getElem? hi) h2)⟩))
  | top => exact .top
theorem RepV.monoR (h : ∀ b o, μ b = some o → μ' b = some o) {v : V} {x : Value} (hv : RepV P μ φ v x) : RepV P μ' φ v x := hv.mono h fun _ _ => rfl

theorem RepV.kill {v : V} {x : Value} (id : Nat) (hv : RepV P μ φ v x) : RepV P μ φ (killV id v) x := by
  unfold killV
  cases v.has id <;> simp
  · exact hv
  · exact .top
theorem RepV.kill2 {v : V} {x : Value} (id : Nat) (hv : RepV P μ φ v x) : RepV P μ φ (kill2V id v) x := by
  unfold kill2V
  cases v.has2 id <;> simp
  · exact hv
  · exact .top
theorem has_kill2 {id j : Nat} {v : V} (h : (kill2V id v).has j = true) : v.has j = true ∧ (kill2V id v).has2 id = false := by
  unfold kill2V at h ⊢
  cases hv : v.has2 id <;> simp [hv, V.has] at h ⊢
  exact h
theorem RepCell.pure {p : PV} {x : Value} {R : Ph0} {w : World} (h : RepPV P μ p x) : RepCell P μ R w p x := by
  unfold RepCell
  split
  · cases h
  · exact h
theorem RepCell.of_pure {p : PV} {x : Value} {R : Ph0} {w : World} (h : RepCell P μ R w p x) (hp : p.isRow = false) : RepPV P μ p x := by
  unfold RepCell at h
  split at h
  · cases hp
  · exact h
theorem RepPV.not_row {p : PV} {x : Value} (h : RepPV P μ p x) : p.isRow = false := by
  cases h <;> rfl
theorem has_kill {id j : Nat} {v : V} (h : (killV id v).has j = true) : v.has j = true ∧ j ≠ id := by
  unfold killV at h
  cases hv : v.has id <;> simp [hv, V.has] at h
  · refine ⟨h, fun e => ?_⟩
    subst e; rw [h] at hv; cases hv
end
end Go.Ab

set_option linter.unusedVariables false
namespace Go.Ab
open Go.RowKit (Below)

section
variable {P : Program} {G : Nat → Option (List PV)} {w0 : Base} {μ : Ro} {φ : Nat → Phys} {f : Fr} {m : Mem} {w : World}

@[simp] theorem has_pv (p : PV) (id : Nat) : (V.pv p).has id = false := by simp [V.has]
@[simp] theorem has_top (id : Nat) : V.top.has id = false := by simp [V.has]
@[simp] theorem has_nils (id : Nat) : V.nils.has id = false := by simp [V.has]
theorem hasL_pv (cs : List PV) (id : Nat) : hasL id (cs.map .pv) = false := by
  induction cs with
  | nil => rfl
  | cons c r ih => simp [hasL, ih]

theorem wf_bool (k : IntKind) (n : Int) : (Lit.int k n).wf = true ↔ k.min ≤ n ∧ n ≤ k.max := by simp [Lit.wf]
theorem wf_wrap (k : IntKind) (n : Int) : (Lit.int k (k.wrap n)).wf = true := by
  rw [wf_bool]
  cases k <;> simp only [IntKind.wrap, IntKind.min, IntKind.max, IntKind.signed, IntKind.bits] <;> simp <;> (try split) <;> omega

theorem RepPV.one {p : PV} {x : Value} (h : RepPV P μ p x) (h1 : ∀ cs, p ≠ .agg cs) (h2 : ∀ cs, p ≠ .tup cs) (h3 : p ≠ .bad) : x.oneCell' = true := by
  cases h <;> first | rfl | exact absurd rfl (h1 _) | exact absurd rfl (h2 _) | exact absurd rfl h3

theorem ofVal1_rep (c : Value) : RepV P μ φ (ofVal1 c) c := by
  unfold ofVal1
  split
  · split
    · exact .pv (.int (by assumption))
    · exact .top
  · exact .pv .bool
  · rename_i s
    split
    · exact .pv (.str (by assumption))
    · exact .top
  · exact .pv .nilp
  · exact .nils
  · exact .pv .nilm
  · exact .pv .nilf
  · exact .pv .ifcN
  · exact .top
theorem ofVal1_has (c : Value) (id : Nat) : (ofVal1 c).has id = false := by
  unfold ofVal1
  split <;> (try split) <;> simp
theorem ofVal_has (c : Value) (id : Nat) : (ofVal c).has id = false := by
  unfold ofVal
  split
  · rename_i cs
    split
    · simp only [V.has]
      rw [Bool.eq_false_iff]
      intro h
      obtain ⟨v, hv, hh⟩ := hasL_iff.1 h
      obtain ⟨x, _, rfl⟩ := List.mem_map.1 hv
      rw [ofVal1_has] at hh; cases hh
    · simp
  · exact ofVal1_has _ _
theorem ofVal_rep (c : Value) : RepV P μ φ (ofVal c) c := by
  unfold ofVal
  split
  · rename_i cs
    split
    · rename_i hc
      refine .agg (by simp) (fun i p x hi hx => ?_) (fun i x hx => ?_)
      · simp only [List.getElem?_map, Array.getElem?_toList, hx, Option.map_some, Option.some.injEq] at hi
        subst hi
        exact ofVal1_rep x
      · rw [List.all_eq_true] at hc
        have := hc x (by rw [← Array.getElem?_toList] at hx; exact List.mem_of_getElem? hx)
        cases x <;> first | rfl | (simp at this)
    · exact .top
  · exact ofVal1_rep _

end
section
variable {R : Type} {E : Env} {w0 : Base} {μ : Ro} {φ : Nat → Phys} {f : Fr} {m : Mem} {a : Act} {w : World}
theorem opd_rep (h : Rel E.P E.glob E.fn.ntmps w0 μ φ f m a w) (x : Operand) : RepV E.P μ φ (opd E f x) (a.eval x) ∧ ∀ id, (opd E f x).has id = true → (m id).isSome = true := by
  cases x with
  | tmp t =>
    simp only [opd]
    cases e : Nat.blt t E.fn.ntmps with
    | true =>
      have hlt : t < E.fn.ntmps := by rwa [Nat.blt_eq] at e
      have := h.fr t
      rw [slots_lt hlt] at this
      exact ⟨this, h.live t⟩
    | false => exact ⟨.top, fun id hid => by cases hid⟩
  | const c => exact ⟨ofVal_rep c, fun id hid => by simp only [opd] at hid; rw [ofVal_has] at hid; cases hid⟩
  | global g =>
    simp only [opd]
    cases hg : E.glob g with
    | none => exact ⟨.top, by simp⟩
    | some cs => exact ⟨.pv (h.glob g cs hg).rep, by simp⟩
  | func g => exact ⟨.fn (by simp) (by simp), by simp [opd, V.has, hasL]⟩
theorem elemCells_get {sz j : Nat} {p q : PV} (h : (elemCells sz p)[j]? = some q) : j < sz ∧ q = cell p j := by
  unfold elemCells at h
  have key : ∀ (n o j : Nat), (cellsFrom p o n)[j]? = some q → j < n ∧ q = cell p (o + j) := by
    intro n
    induction n with
    | zero => intro o j hj; simp [cellsFrom] at hj
    | succ n ih =>
      intro o j hj
      cases j with
      | zero => simp [cellsFrom] at hj; exact ⟨by omega, by simp [hj]⟩
      | succ j =>
        simp only [cellsFrom, List.getElem?_cons_succ] at hj
        obtain ⟨h1, h2⟩ := ih (o + 1) j hj
        exact ⟨by omega, by rw [h2]; congr 1; omega⟩
  have := key sz 0 j h
  simpa using this
theorem elemCells_length (sz : Nat) (p : PV) : (elemCells sz p).length = sz := by
  unfold elemCells
  have : ∀ n o, (cellsFrom p o n).length = n := by
    intro n
    induction n with
    | zero => intro o; rfl
    | succ n ih => intro o; simp [cellsFrom, ih]
  exact this _ _
theorem elemCells_eq {sz : Nat} {p : PV} (h : p.cells.length = sz) : elemCells sz p = p.cells := by
  apply List.ext_getElem?
  intro j
  by_cases hj : j < sz
  · have h1 : j < (elemCells sz p).length := by rw [elemCells_length]; exact hj
    have h2 := elemCells_get (List.getElem?_eq_getElem h1)
    rw [List.getElem?_eq_getElem h1, h2.2, cell, List.getD_eq_getElem?_getD, List.getElem?_eq_getElem (by omega)]
    rfl
  · rw [List.getElem?_eq_none (by rw [elemCells_length]; omega), List.getElem?_eq_none (by omega)]

theorem RepPV.agg_elemCells {P : Program} {μ : Ro} {n : Nat} {cs : List PV} {x : Value} (h : RepPV P μ (.agg cs) x) (hn : cs.length = n) : RepPV P μ (.agg (elemCells n (.agg cs))) x := by
  rw [elemCells_eq (p := .agg cs) (by simpa [PV.cells] using hn)]
  exact h
theorem ldTy_ok {t : TypeId} {p : PV} {k : PV → Option R} {r : R} (h : ldTy E t p k = some r) :
    ∃ q, (∀ (R' : Type) (k' : PV → Option R'), ldTy E t p k' = k' q) ∧ k q = some r ∧ (∀ (P : Program) (μ : Ro) x, RepPV P μ p x → RepPV P μ q x) ∧ q ≠ .bad ∧ (∀ cs, q ≠ .tup cs) ∧ (isAggT E.P t = false → ∀ cs, q ≠ .agg cs) := by
  unfold ldTy at h
  split at h
  · rename_i q hu
    obtain ⟨n, hn, hk⟩ := Option.bind_eq_some_iff.1 h
    have hp : p = .int q n := by
      cases p <;> simp [asInt] at hn
      obtain ⟨rfl, rfl⟩ := hn; rfl
    exact ⟨.int q n, fun R' k' => by simp [ldTy, hu, hn], hk, fun P μ x hx => hp ▸ hx, by simp, by simp, by simp⟩
  · rename_i hu
    obtain ⟨n, hn, hk⟩ := Option.bind_eq_some_iff.1 h
    have hp : p = .bool n := by
      cases p <;> simp [asBool] at hn
      subst hn; rfl
    exact ⟨.bool n, fun R' k' => by simp [ldTy, hu, hn], hk, fun P μ x hx => hp ▸ hx, by simp, by simp, by simp⟩
  · rename_i hu
    obtain ⟨n, hn, hk⟩ := Option.bind_eq_some_iff.1 h
    have hp : p = .str n := by
      cases p <;> simp [asStr] at hn
      subst hn; rfl
    exact ⟨.str n, fun R' k' => by simp [ldTy, hu, hn], hk, fun P μ x hx => hp ▸ hx, by simp, by simp, by simp⟩
  · rename_i e hu
    obtain ⟨es, hn, hk⟩ := Option.bind_eq_some_iff.1 h
    refine ⟨.rs (csz E.P e) es, fun R' k' => by simp [ldTy, hu, hn], hk, fun P μ x hx => ?_, by simp, by simp, by simp⟩
    cases p <;> simp [asSl] at hn
    split at hn
    · rename_i hs; simp only [Option.some.injEq] at hn; rw [← hs, ← hn]; exact hx
    · split at hn
      · simp only [Option.some.injEq] at hn
        subst hn
        cases hx with
        | rsNil => exact .rsNil
        | rsE h => exact .rsE h
        | rs X h1 h2 _ _ _ _ => exact .rsE h2
      · cases hn
  · rename_i fs hu
    obtain ⟨u, hn, hk⟩ := Option.bind_eq_some_iff.1 h
    refine ⟨_, fun R' k' => by simp [ldTy, hu, hn], hk, fun P μ x hx => ?_, by simp, by simp, by simp [isAggT, hu]⟩
    cases p <;> simp [asAgg] at hn
    exact hx.agg_elemCells hn
  · rename_i n e hu
    obtain ⟨u, hn, hk⟩ := Option.bind_eq_some_iff.1 h
    refine ⟨_, fun R' k' => by simp [ldTy, hu, hn], hk, fun P μ x hx => ?_, by simp, by simp, by simp [isAggT, hu]⟩
    cases p <;> simp [asAgg] at hn
    exact hx.agg_elemCells hn
  · rename_i e hu
    split at h
    · exact ⟨.nilp, fun R' k' => by simp [ldTy, hu], h, fun P μ x hx => hx, by simp, by simp, by simp⟩
    · rename_i cs
      exact ⟨.rp cs, fun R' k' => by simp [ldTy, hu], h, fun P μ x hx => hx, by simp, by simp, by simp⟩
    · cases h
  · rename_i kt et hu
    unfold mapCase at h
    split at h
    · exact ⟨.nilm, fun R' k' => by simp [ldTy, hu, mapCase], h, fun P μ x hx => hx, by simp, by simp, by simp⟩
    · rename_i kt' ks vs
      split at h
      · rename_i he
        subst he
        exact ⟨.rm _ ks vs, fun R' k' => by simp [ldTy, hu, mapCase], h, fun P μ x hx => hx, by simp, by simp, by simp⟩
      · cases h
    · cases h
  · rename_i ps rs vr hu
    split at h
    · exact ⟨.nilf, fun R' k' => by simp [ldTy, hu], h, fun P μ x hx => hx, by simp, by simp, by simp⟩
    · rename_i g cs
      exact ⟨.fn g cs, fun R' k' => by simp [ldTy, hu], h, fun P μ x hx => hx, by simp, by simp, by simp⟩
    · cases h
  · rename_i ms hu
    obtain ⟨n, hn, hk⟩ := Option.bind_eq_some_iff.1 h
    have hp : p = .ifc n := by
      cases p <;> simp [asIfc] at hn
      subst hn; rfl
    exact ⟨.ifc n, fun R' k' => by simp [ldTy, hu, hn], hk, fun P μ x hx => hp ▸ hx, by simp, by simp, by simp⟩
  · cases h

theorem ldTyV_ok {t : TypeId} {v : V} {k : V → Option R} {r : R} (h : ldTyV E t v k = some r) :
    ∃ u, (∀ (R' : Type) (k' : V → Option R'), ldTyV E t v k' = k' u) ∧ k u = some r ∧ (∀ (P : Program) (μ : Ro) (φ : Nat → Phys) x, RepV P μ φ v x → RepV P μ φ u x) ∧ (∀ id, u.has id = true → v.has id = true) := by
  unfold ldTyV at h
  split at h
  · obtain ⟨q, h1, h2, h3, _⟩ := ldTy_ok h
    exact ⟨.pv q, fun R' k' => by simp [ldTyV, h1], h2, fun P μ φ x hx => by cases hx with | pv hp => exact .pv (h3 _ _ _ hp), by simp⟩
  · cases h
  · rename_i h1 h2
    split at h
    · rename_i hu
      refine ⟨v, fun R' k' => ?_, h, fun _ _ _ _ hx => hx, fun _ h => h⟩
      unfold ldTyV
      cases v <;> first | (simp only [hu, if_true]; done) | exact absurd rfl (h1 _) | exact absurd rfl h2
    · cases h
theorem ldTy_und {t : TypeId} {p : PV} {k : PV → Option R} {r : R} (h : ldTy E t p k = some r) : ∃ d, E.P.underlying t = some d := by
  unfold ldTy at h
  cases hq : E.P.underlying t with
  | none => simp [hq] at h
  | some d => exact ⟨d, rfl⟩
theorem ldTyV_und {t : TypeId} {v : V} {k : V → Option R} {r : R} (h : ldTyV E t v k = some r) : ∃ d, E.P.underlying t = some d := by
  unfold ldTyV at h
  split at h
  · exact ldTy_und h
  · cases h
  · split at h
    · rename_i hu; exact Option.isSome_iff_exists.1 hu
    · cases h

end
end Go.Ab

set_option linter.unusedVariables false
namespace Go.Ab
open Go.RowKit (Below)

section
variable {P : Program} {G : Nat → Option (List PV)} {w0 : Base} {μ : Ro} {φ : Nat → Phys} {m : Mem} {w : World}

theorem info_of_und {t : TypeId} {d : TypeDesc} (h : P.underlying t = some d) : (P.info? t).map (·.size) = some (csz P t) := by
  unfold Program.underlying at h
  cases hi : P.info? t with
  | none => simp [hi] at h
  | some i => simp [csz, hi]
theorem isAggT_und {t : TypeId} (h : isAggT P t = true) : ∃ d, P.underlying t = some d ∧ d.isRow = true := by
  unfold isAggT at h
  split at h
  · rename_i fs hu; exact ⟨_, hu, rfl⟩
  · rename_i n e hu; exact ⟨_, hu, rfl⟩
  · cases h
theorem run_isAgg {t : TypeId} {d : TypeDesc} (hu : P.underlying t = some d) : (isAgg t).run P w = .ok (isAggT P t) w := by
  unfold isAgg
  simp only [Sem.run_bind, run_underlying hu, Result.andThen_ok, isAggT, hu]
  cases d <;> rfl
theorem run_sizeOf' {t : TypeId} {d : TypeDesc} (hu : P.underlying t = some d) : (sizeOf t).run P w = .ok (csz P t) w := by
  have := info_of_und hu
  cases hi : P.info? t with
  | none => simp [hi] at this
  | some i => simp [sizeOf, typeInfo, hi, csz]
theorem run_loadAt_one {t : TypeId} {d : TypeDesc} {b o : Nat} {y : Value} (hu : P.underlying t = some d) (ha : isAggT P t = false) (hc : w.cell? ⟨b, o, none⟩ = some y) :
    (Instr.loadAt t (.pointer (some ⟨b, o, none⟩))).run P w = .ok y w := by
  simp only [Instr.loadAt, Instr.sureAddr, loadVar, Sem.run_bind, Sem.run_pure, Result.andThen_ok, run_isAgg hu, ha]
  simp [load, Sem.run, hc]
theorem run_loadAt_agg {t : TypeId} {b o : Nat} {cs : List Value} (ha : isAggT P t = true) (hc : w.rangeAt b o cs) (hl : cs.length = csz P t) :
    (Instr.loadAt t (.pointer (some ⟨b, o, none⟩))).run P w = .ok (.agg cs.toArray) w := by
  obtain ⟨d, hu, hd⟩ := isAggT_und ha
  exact run_loadAt_mid w b o t cs d hc hu hd (by rw [info_of_und hu, hl])

theorem RelM.cellAt (hM : RelM P G w0 μ φ m w) {b o : Nat} {x : Value} (h : cellAt μ b o = some x) : w.cell? ⟨b, o, none⟩ = some x := by
  unfold Go.Ab.cellAt at h
  split at h
  · rename_i c t fz hb
    simp [World.cell?, hM.ro _ _ hb, h]
  · cases h

theorem cell?_of_heap {g o : Nat} {c : Array Value} {T : TypeId} {fz : Nat × Nat} (h : w.heap[g]? = some (.cells c T fz)) : w.cell? ⟨g, o, none⟩ = c[o]? := by
  simp [World.cell?, h]

theorem take_get {T : Type} {l : List T} {n i : Nat} {x : T} (h : (l.take n)[i]? = some x) : i < n ∧ l[i]? = some x := by
  rw [List.getElem?_take] at h
  split at h
  · exact ⟨by assumption, h⟩
  · cases h
theorem take_drop_get {T : Type} {l : List T} {o n i : Nat} {x : T} (h : ((l.drop o).take n)[i]? = some x) : i < n ∧ l[o + i]? = some x := by
  rw [List.getElem?_take] at h
  split at h
  · rw [List.getElem?_drop] at h; exact ⟨by assumption, h⟩
  · cases h
theorem RepPV.rp_agg {cs : List PV} {b o n : Nat} {X : Nat → Value} (hM : RelM P G w0 μ φ m w) (h1 : ∀ (i : Nat) p, cs[i]? = some p → Go.Ab.cellAt μ b (o + i) = some (X i))
    (h2 : ∀ (i : Nat) p, cs[i]? = some p → RepPV P μ p (X i)) (h3 : ∀ i : Nat, i < cs.length → (X i).oneCell' = true) (hn : n ≤ cs.length) :
    w.rangeAt b o ((List.range n).map X) ∧ RepPV P μ (.agg (cs.take n)) (.agg ((List.range n).map X).toArray) := by
  have hX : ∀ i x, ((List.range n).map X)[i]? = some x → i < n ∧ x = X i := by
    intro i x hx
    have hi : i < n := by have := (List.getElem?_eq_some_iff.1 hx).1; simpa using this
    rw [List.getElem?_map, List.getElem?_range hi] at hx
    simp at hx
    exact ⟨hi, hx.symm⟩
  refine ⟨fun j v hv => ?_, .agg (by simp; omega) (fun i p x hi hx => ?_) (fun i x hx => ?_)⟩
  · obtain ⟨hj, rfl⟩ := hX j v hv
    exact hM.cellAt (h1 j _ (List.getElem?_eq_getElem (by omega)))
  · rw [List.getElem?_toArray] at hx
    obtain ⟨hj, rfl⟩ := hX i x hx
    exact h2 i p (take_get hi).2
  · rw [List.getElem?_toArray] at hx
    obtain ⟨hj, rfl⟩ := hX i x hx
    exact h3 i (by omega)
end

section
variable {R : Type} {E : Env}
def Quiet (v : V) (m : Mem) : Prop := ∀ id, v.has id = true → (m id).isSome = true

theorem frzs_ok {g : V → Option PV} {cs : List V} {ps : List PV} (h : frzs g cs = some ps) : ps.length = cs.length ∧ ∀ (i : Nat) p, ps[i]? = some p → ∃ v, cs[i]? = some v ∧ g v = some p := by
  induction cs generalizing ps with
  | nil => simp [frzs] at h; subst h; simp
  | cons c r ih =>
    simp only [frzs] at h
    obtain ⟨p, hp, h⟩ := Option.bind_eq_some_iff.1 h
    obtain ⟨ps', hps, h⟩ := Option.bind_eq_some_iff.1 h
    simp only [Option.some.injEq] at h; subst h
    obtain ⟨h1, h2⟩ := ih hps
    refine ⟨by simp [h1], fun i q hq => ?_⟩
    cases i with
    | zero => simp at hq; subst hq; exact ⟨c, by simp, hp⟩
    | succ i => simp at hq; simpa using h2 i q hq
theorem xloadE_ok {s off : Nat} {t : TypeId} {e : PV} {k : V → Option R} {r : R} (h : xloadE E s t e off k = some r) :
    ∃ v, (∀ (R' : Type) (k' : V → Option R'), xloadE E s t e off k' = k' v) ∧ k v = some r ∧ (∀ id, v.has id = false) ∧
    ∀ (μ : Ro) (φ : Nat → Phys) (w : World) (g o : Nat) (c : Array Value) (T : TypeId), w.heap[g]? = some (.cells c T (0, 0)) → e.cells.length = s →
      (∀ (j : Nat) p x, e.cells[j]? = some p → c[o + j]? = some x → RepPV E.P μ p x) → (∀ (i : Nat) (x : Value), i < o + s → c[i]? = some x → x.oneCell' = true) → o + s ≤ c.size →
      ∃ y, (Instr.loadAt t (.pointer (some ⟨g, o + off, none⟩))).run E.P w = .ok y w ∧ RepV E.P μ φ v y := by
  unfold xloadE at h
  split at h
  · rename_i ha
    split at h
    · rename_i hb
      refine ⟨_, fun R' k' => by simp [xloadE, ha, hb], h, by simp, fun μ φ w g o c T hg hs hc h1 hl => ?_⟩
      have hR : w.rangeAt g (o + off) ((c.toList.drop (o + off)).take (csz E.P t)) := fun j v hv => by
        obtain ⟨_, hv⟩ := take_drop_get hv
        rw [cell?_of_heap hg]; simpa using hv
      refine ⟨_, run_loadAt_agg ha hR (by simp; omega), .pv (.agg (by simp [elemCells_length]; omega) (fun i p x hi hx => ?_) (fun i x hx => ?_))⟩
      · rw [List.getElem?_toArray] at hx
        obtain ⟨_, hx⟩ := take_drop_get hx
        rw [elemCells_eq hs] at hi
        obtain ⟨_, hi⟩ := take_drop_get hi
        exact hc _ p x hi (by simpa [Nat.add_assoc] using hx)
      · rw [List.getElem?_toArray] at hx
        obtain ⟨_, hx⟩ := take_drop_get hx
        have hx : c[o + off + i]? = some x := by simpa using hx
        exact h1 _ x (by omega) hx
    · cases h
  · rename_i ha
    have ha : isAggT E.P t = false := by simpa using ha
    split at h
    · rename_i p hp
      obtain ⟨q, h1, h2, h3, _⟩ := ldTy_ok h
      obtain ⟨d, hu⟩ := ldTy_und h
      refine ⟨.pv q, fun R' k' => by simp [xloadE, ha, hp, h1], h2, by simp, fun μ φ w g o c T hg hs hc _ hl => ?_⟩
      rw [elemCells_eq hs] at hp
      have hoff : off < e.cells.length := (List.getElem?_eq_some_iff.1 hp).1
      have hx : c[o + off]? = some c[o + off] := Array.getElem?_eq_getElem (by omega)
      exact ⟨_, run_loadAt_one hu ha (by rw [cell?_of_heap hg]; exact hx), .pv (h3 _ _ _ (hc off p _ hp hx))⟩
    · cases h

theorem ldTy_sane {t : TypeId} {p : PV} {k : PV → Option R} {r : R} (h : ldTy E t p k = some r) : p.isRow = false ∧ p ≠ .bad := by
  cases p with
  | rsO s es =>
    exfalso
    unfold ldTy at h
    split at h <;> simp [asInt, asBool, asStr, asSl, asAgg, asIfc, mapCase] at h
  | bad =>
    exfalso
    unfold ldTy at h
    split at h <;> simp [asInt, asBool, asStr, asSl, asAgg, asIfc, mapCase] at h
  | _ => exact ⟨rfl, by simp⟩
theorem cell_some {e p : PV} {off : Nat} (h : cell e off = p) (hp : p ≠ .bad) : e.cells[off]? = some p := by
  unfold cell at h
  rw [List.getD_eq_getElem?_getD] at h
  cases he : e.cells[off]? with
  | none => rw [he] at h; simp at h; exact absurd h.symm hp
  | some q => rw [he] at h; simp at h; rw [h]
theorem asRow_ok {s : Nat} {p : PV} {rs : List PV} (h : asRow s p = some rs) : p = .rsO s rs := by
  unfold asRow at h
  split at h
  · split at h
    · rename_i e; subst e; simp only [Option.some.injEq] at h; subst h; rfl
    · cases h
  · cases h
theorem RepNest.cell {P : Program} {μ : Ro} {φ : Nat → Phys} {w : World} {id sz : Nat} {et : TypeId} {es : List PV} (h : RepNest P μ φ w id sz et es) {g : Nat} (hg : (φ id).g = some g) {i off : Nat} {e p : PV} (he : es[i]? = some e) (hp : e.cells[off]? = some p) :
    ∃ c x, w.heap[g]? = some (.cells c et (0, 0)) ∧ c[i * sz + off]? = some x ∧ RepCell P μ ((φ id).row i off) w p x ∧ x.oneCell' = true := by
  obtain ⟨a1, a2, a3, a4, a5, a6, a7⟩ := h
  rw [hg] at a7
  obtain ⟨c, c1, c2, c3, c4, c5⟩ := a7
  have hi : i < es.length := (List.getElem?_eq_some_iff.1 he).1
  have ho : off < sz := by rw [← a5 i e he]; exact (List.getElem?_eq_some_iff.1 hp).1
  have h1 : (i + 1) * sz ≤ es.length * sz := Nat.mul_le_mul_right _ (by omega)
  have h2 : es.length * sz ≤ (φ id).cap * sz := Nat.mul_le_mul_right _ c3
  rw [Nat.add_mul] at h1
  have hlt : i * sz + off < c.size := by omega
  exact ⟨c, c[i * sz + off], c1, Array.getElem?_eq_getElem hlt, c4 i e off p _ he hp (Array.getElem?_eq_getElem hlt), c5 (i * sz + off) _ (by omega) (Array.getElem?_eq_getElem hlt)⟩
theorem RepNest.row {P : Program} {μ : Ro} {φ : Nat → Phys} {w : World} {id sz : Nat} {et : TypeId} {es : List PV} (h : RepNest P μ φ w id sz et es) {i off s : Nat} {e : PV} {rs : List PV} (he : es[i]? = some e) (hr : asRow s (Go.Ab.cell e off) = some rs) :
    ∃ g x, (φ id).g = some g ∧ w.cell? ⟨g, i * sz + off, none⟩ = some x ∧ RepRow P μ ((φ id).row i off) w s rs x ∧ e.cells[off]? = some (.rsO s rs) := by
  have hp := cell_some (asRow_ok hr) (by simp)
  cases hg : (φ id).g with
  | none =>
    obtain ⟨a1, a2, a3, a4, a5, a6, a7⟩ := h
    rw [hg] at a7
    rw [a7.1] at he; simp at he
  | some g =>
    obtain ⟨c, x, c1, c2, c3, _⟩ := h.cell hg he hp
    exact ⟨g, x, rfl, by rw [cell?_of_heap c1]; exact c2, c3, hp⟩
theorem RepV.os2_of {P : Program} {μ ν : Ro} {φ : Nat → Phys} {id i off : Nat} {x : Value} (h : RepV P μ (fun _ => ((φ id).row i off).up) (.os 0) x) : RepV P ν φ (.os2 id i off) x := by
  cases h with
  | osN h => exact .os2N h
  | os h => exact .os2 h
theorem RepV.os2_to {P : Program} {μ ν : Ro} {φ : Nat → Phys} {id i off : Nat} {x : Value} (h : RepV P μ φ (.os2 id i off) x) : RepV P ν (fun _ => ((φ id).row i off).up) (.os 0) x := by
  cases h with
  | os2N h => exact .osN h
  | os2 h => exact .os (id := 0) (φ := fun _ => ((φ id).row i off).up) h

theorem xload_ok {own : Bool} {t : TypeId} {a : V} {m : Mem} {k : V → Foot → Option R} {r : R} (h : xload E own t a m k = some r) :
    ∃ v ft, (∀ m2 : Mem, (∀ x ∈ ft, m2 x.2 = m x.2) → ∀ (R' : Type) (k' : V → Foot → Option R'), xload E own t a m2 k' = k' v ft) ∧ k v ft = some r ∧ (∀ x ∈ ft, x.1 = false) ∧
    ∀ (G : Nat → Option (List PV)) (w0 : Base) (μ : Ro) (φ : Nat → Phys) (w : World) (x : Value), RelM E.P G w0 μ φ m w → RepV E.P μ φ a x →
      ∃ y, (Instr.loadAt t x).run E.P w = .ok y w ∧ RepV E.P μ φ v y ∧ Quiet v m := by
  unfold xload at h
  split at h
  · rename_i cs
    split at h
    · rename_i ha
      split at h
      · rename_i hn
        refine ⟨_, _, fun m2 _ R' k' => by simp [xload, ha, hn], h, by simp, fun G w0 μ φ w x hM hx => ?_⟩
        cases hx with
        | pv hp => cases hp with
          | rp X h1 h2 h3 =>
            obtain ⟨hr, hv⟩ := RepPV.rp_agg hM h1 h2 h3 hn
            exact ⟨_, run_loadAt_agg ha hr (by simp), .pv hv, by simp [Quiet]⟩
      · cases h
    · rename_i ha
      have ha : isAggT E.P t = false := by simpa using ha
      obtain ⟨p, hp0, h⟩ := Option.bind_eq_some_iff.1 h
      have hp1 : cs[0]? = some p := by rw [← List.head?_eq_getElem?]; exact hp0
      obtain ⟨q, h1, h2, h3, _⟩ := ldTy_ok h
      refine ⟨_, _, fun m2 _ R' k' => by simp [xload, ha, hp0, h1], h2, by simp, fun G w0 μ φ w x hM hx => ?_⟩
      obtain ⟨d, hu⟩ := ldTy_und h
      cases hx with
      | pv hp => cases hp with
        | rp X g1 g2 g3 =>
          have hc := hM.cellAt (g1 0 p hp1)
          exact ⟨_, run_loadAt_one hu ha (by simpa using hc), .pv (h3 _ _ _ (g2 0 p hp1)), by simp [Quiet]⟩
  · rename_i id off
    split at h
    · rename_i cs hm
      split at h
      · rename_i ha
        split at h
        · rename_i hn
          refine ⟨_, _, fun m2 hm2 R' k' => by simp [xload, ha, hn, hm2 (false, id) (by simp), hm], h, by simp, fun G w0 μ φ w x hM hx => ?_⟩
          cases hx with
          | @op _ _ g hg =>
            obtain ⟨g', c, T, hg', hh, hs, hv, h1, hln⟩ := hM.blk id _ hm
            rw [hg] at hg'; simp only [Option.some.injEq] at hg'; subst hg'
            have hR : w.rangeAt g off ((c.toList.drop off).take (csz E.P t)) := fun j v hv => by
              obtain ⟨_, hv⟩ := take_drop_get hv
              rw [cell?_of_heap hh]; simpa using hv
            refine ⟨_, run_loadAt_agg ha hR (by simp; omega), .agg (by simp; omega) (fun i p x hi hx => ?_) (fun i x hx => ?_), ?_⟩
            · rw [List.getElem?_toArray] at hx
              obtain ⟨_, hx⟩ := take_drop_get hx
              obtain ⟨_, hi⟩ := take_drop_get hi
              exact hv _ p x hi (by simpa using hx)
            · rw [List.getElem?_toArray] at hx
              obtain ⟨_, hx⟩ := take_drop_get hx
              exact h1 _ x (by simpa using hx)
            · intro id' hid
              simp only [V.has] at hid
              obtain ⟨v, hv, hh⟩ := hasL_iff.1 hid
              exact hM.liveB id cs id' hm (hasL_mem (List.mem_of_mem_drop (List.mem_of_mem_take hv)) hh)
        · cases h
      · rename_i ha
        have ha : isAggT E.P t = false := by simpa using ha
        split at h
        · rename_i ps hps
          obtain ⟨p, hp0, h⟩ := Option.bind_eq_some_iff.1 h
          obtain ⟨q, h1, h2, h3, _⟩ := ldTy_ok h
          refine ⟨_, _, fun m2 hm2 R' k' => by simp [xload, ha, hm2 (false, id) (by simp), hm, hps, hp0, h1], h2, by simp, fun G w0 μ φ w x hM hx => ?_⟩
          cases hx with
          | @op _ _ g hg =>
            obtain ⟨g', c, T, hg', hh, hs, hvv, _⟩ := hM.blk id _ hm
            rw [hg] at hg'; simp only [Option.some.injEq] at hg'; subst hg'
            obtain ⟨f1, f2⟩ := frzs_ok hps
            obtain ⟨hlt, hp1⟩ := List.getElem?_eq_some_iff.1 hp0
            have hoff : off < cs.length := by omega
            obtain ⟨v, hv, hpv⟩ := f2 off p hp0
            have hvp : v = .pv p := by
              cases v <;> simp [pvO] at hpv
              subst hpv; rfl
            subst hvp
            have hx : c[off]? = some c[off] := Array.getElem?_eq_getElem (by omega)
            obtain ⟨d, hu⟩ := ldTy_und h
            have hr := hvv off _ _ hv hx
            cases hr with
            | pv hr => exact ⟨_, run_loadAt_one hu ha (by rw [cell?_of_heap hh]; exact hx), .pv (h3 _ _ _ hr), by simp [Quiet]⟩
        · rename_i hnp
          split at h
          · rename_i v hv
            obtain ⟨u, h1, h2, h3, h4⟩ := ldTyV_ok h
            refine ⟨_, _, fun m2 hm2 R' k' => by simp [xload, ha, hm2 (false, id) (by simp), hm, hnp, hv, h1], h2, by simp, fun G w0 μ φ w x hM hx => ?_⟩
            cases hx with
            | @op _ _ g hg =>
              obtain ⟨g', c, T, hg', hh, hs, hvv, _⟩ := hM.blk id _ hm
              rw [hg] at hg'; simp only [Option.some.injEq] at hg'; subst hg'
              have hoff : off < cs.length := (List.getElem?_eq_some_iff.1 hv).1
              have hx : c[off]? = some c[off] := Array.getElem?_eq_getElem (by omega)
              obtain ⟨d, hu⟩ := ldTyV_und h
              refine ⟨_, run_loadAt_one hu ha (by rw [cell?_of_heap hh]; exact hx), h3 _ _ _ _ (hvv off v _ hv hx), fun id' hid => ?_⟩
              exact hM.liveB id cs id' hm (hasL_mem (List.mem_of_getElem? hv) (h4 id' hid))
          · cases h
    · cases h
  · rename_i id i off
    have key : ∀ (sz : Nat) (et : TypeId) (es : List PV), (m id = some (.arr sz et es) ∨ m id = some (.fro sz et es)) → ((es[i]?).bind fun e => xloadE E sz t e off fun v => k v [(false, id)]) = some r →
        ∃ v, (∀ (R' : Type) (k' : V → Foot → Option R'), ((es[i]?).bind fun e => xloadE E sz t e off fun v => k' v [(false, id)]) = k' v [(false, id)]) ∧ k v [(false, id)] = some r ∧
        ∀ (G : Nat → Option (List PV)) (w0 : Base) (μ : Ro) (φ : Nat → Phys) (w : World) (x : Value), RelM E.P G w0 μ φ m w → RepV E.P μ φ (.oe id i off) x →
          ∃ y, (Instr.loadAt t x).run E.P w = .ok y w ∧ RepV E.P μ φ v y ∧ Quiet v m := by
      intro sz et es hm hb
      obtain ⟨e, he, hb⟩ := Option.bind_eq_some_iff.1 hb
      obtain ⟨v, h1, h2, h3, h4⟩ := xloadE_ok hb
      refine ⟨v, fun R' k' => by simp [he, h1], h2, fun G w0 μ φ w x hM hx => ?_⟩
      have hA : RepArr E.P μ φ w id sz et es := by
        rcases hm with hm | hm
        · exact hM.blk id _ hm
        · exact (hM.blk id _ hm).1
      cases hx with
      | @oe _ _ _ g hg =>
        obtain ⟨a1, a2, a3, a4, a5, a6, a7⟩ := hA
        rw [hg] at a7
        obtain ⟨c, c1, c2, c3, c4, c5⟩ := a7
        have hi : i < es.length := (List.getElem?_eq_some_iff.1 he).1
        obtain ⟨y, hy, hv⟩ := h4 μ φ w g (i * sz) c et c1 (a5 i e he) (fun j p x hj hx => c4 i e j p x he hj hx) (fun i' x hi' hx => c5 i' x (by
          have : (i + 1) * sz ≤ es.length * sz := Nat.mul_le_mul_right _ (by omega)
          rw [Nat.add_mul] at this; omega) hx) (by
          have : (i + 1) * sz ≤ (φ id).cap * sz := Nat.mul_le_mul_right _ (by omega)
          rw [Nat.add_mul] at this; omega)
        rw [a2]
        exact ⟨y, hy, hv, fun id hid => by rw [h3] at hid; cases hid⟩
    split at h
    · rename_i sz et es hm
      obtain ⟨v, h1, h2, h3⟩ := key sz et es (.inl hm) h
      exact ⟨v, _, fun m2 hm2 R' k' => by have := hm2 (false, id) (by simp); simp only at this; simp only [xload, this, hm]; exact h1 R' k', h2, by simp, h3⟩
    · rename_i sz et es hm
      obtain ⟨v, h1, h2, h3⟩ := key sz et es (.inr hm) h
      exact ⟨v, _, fun m2 hm2 R' k' => by have := hm2 (false, id) (by simp); simp only at this; simp only [xload, this, hm]; exact h1 R' k', h2, by simp, h3⟩
    · rename_i sz et es hm
      split at h
      · cases h
      · rename_i ha
        obtain ⟨e, he, h⟩ := Option.bind_eq_some_iff.1 h
        have ha' : isAggT E.P t = false := by simpa using ha
        split at h
        · rename_i ho
          split at h
          · rename_i et' hu
            obtain ⟨rs, hr, h⟩ := Option.bind_eq_some_iff.1 h
            refine ⟨_, _, fun m2 hm2 R' k' => by have := hm2 (false, id) (by simp); simp only at this; simp only [xload, this, hm, if_neg ha, he, ho, hu, hr, Option.bind_some, if_true], h, by simp, fun G w0 μ φ w x hM hx => ?_⟩
            have hN : RepNest E.P μ φ w id sz et es := hM.blk id _ hm
            obtain ⟨g, y, hg, hc, hrow, _⟩ := hN.row he hr
            cases hx with
            | oe hg' =>
              rw [hg] at hg'; simp only [Option.some.injEq] at hg'; subst hg'
              rw [hN.2.1]
              refine ⟨y, run_loadAt_one hu ha' hc, .os2_of hrow.2, fun j hj => ?_⟩
              have := Nat.eq_of_beq_eq_true hj
              subst this; rw [hm]; rfl
          · cases h
        · rename_i ho
          obtain ⟨q, h1, h2, h3, _⟩ := ldTy_ok h
          obtain ⟨hq1, hq2⟩ := ldTy_sane h
          obtain ⟨d, hu⟩ := ldTy_und h
          refine ⟨_, _, fun m2 hm2 R' k' => by have := hm2 (false, id) (by simp); simp only at this; simp only [xload, this, hm, if_neg ha, he, ho, Option.bind_some, if_false, Bool.false_eq_true]; exact h1 _ _, h2, by simp, fun G w0 μ φ w x hM hx => ?_⟩
          have hN : RepNest E.P μ φ w id sz et es := hM.blk id _ hm
          cases hx with
          | oe hg =>
            obtain ⟨c, y, c1, c2, c3, _⟩ := hN.cell hg he (cell_some rfl hq2)
            rw [hN.2.1]
            exact ⟨y, run_loadAt_one hu ha' (by rw [cell?_of_heap c1]; exact c2), .pv (h3 _ _ _ (c3.of_pure hq1)), by simp [Quiet]⟩
    · cases h
  · rename_i id i off s j off2
    split at h
    · rename_i sz et es hm
      obtain ⟨e, he, h⟩ := Option.bind_eq_some_iff.1 h
      obtain ⟨rs, hr, h⟩ := Option.bind_eq_some_iff.1 h
      obtain ⟨q, hq, h⟩ := Option.bind_eq_some_iff.1 h
      obtain ⟨v, h1, h2, h3, h4⟩ := xloadE_ok h
      refine ⟨v, _, fun m2 hm2 R' k' => by have := hm2 (false, id) (by simp); simp only at this; simp only [xload, this, hm, he, hr, hq, Option.bind_some]; exact h1 R' _, h2, by simp, fun G w0 μ φ w x hM hx => ?_⟩
      have hN : RepNest E.P μ φ w id sz et es := hM.blk id _ hm
      obtain ⟨g, y, hg, hc, ⟨⟨et', hA⟩, hV⟩, _⟩ := hN.row he hr
      cases hx with
      | @oe2 _ _ _ _ _ _ g' hg' hs =>
        obtain ⟨a1, a2, a3, a4, a5, a6, a7⟩ := hA
        have hgu : ((φ id).row i off).up.g = some g' := hg'
        rw [hgu] at a7
        obtain ⟨c, c1, c2, c3, c4, c5⟩ := a7
        have hj : j < rs.length := (List.getElem?_eq_some_iff.1 hq).1
        have e1 : (j + 1) * s ≤ rs.length * s := Nat.mul_le_mul_right _ (by omega)
        have e2 : rs.length * s ≤ ((φ id).row i off).up.cap * s := Nat.mul_le_mul_right _ c3
        have e3 : ((φ id).row i off).up.cap * s ≤ c.size := c2
        rw [Nat.add_mul] at e1
        obtain ⟨y, hy, hv⟩ := h4 μ φ w g' (j * s) c et' c1 (a5 j q hq) (fun l p x hl hx => c4 j q l p x hq hl hx) (fun i' x hi' hx => c5 i' x (by omega) hx) (by omega)
        exact ⟨y, hy, hv, fun id hid => by rw [h3] at hid; cases hid⟩
    · cases h
  · cases h
end
end Go.Ab

set_option linter.unusedVariables false
namespace Go.Ab
open Go.RowKit (Below)

section
variable {R : Type} {E : Env}

theorem fieldOff_ok {s : TypeId} {j o : Nat} {t : TypeId} (h : fieldOff E s j = some (o, t)) :
    ∃ fs f, E.P.underlying s = some (.struct fs) ∧ fs[j]? = some f ∧ f.offset = o ∧ f.type = t ∧ csz E.P t ≠ 0 := by
  unfold fieldOff at h
  split at h
  · rename_i fs hu
    split at h
    · rename_i f hf
      split at h
      · cases h
      · rename_i hz
        simp only [Option.some.injEq, Prod.mk.injEq] at h
        obtain ⟨rfl, rfl⟩ := h
        exact ⟨fs, f, hu, hf, rfl, rfl, hz⟩
    · cases h
  · cases h
theorem csz_und {P : Program} {t : TypeId} (h : csz P t ≠ 0) : ∃ i, P.info? t = some i ∧ i.size = csz P t := by
  unfold csz at *
  cases hi : P.info? t with
  | none => simp [hi] at h
  | some i => exact ⟨i, rfl, by simp⟩
theorem run_sizeOf_ne {P : Program} {t : TypeId} {w : World} (h : csz P t ≠ 0) : (sizeOf t).run P w = .ok (csz P t) w := by
  obtain ⟨i, hi, hs⟩ := csz_und h
  simp [sizeOf, typeInfo, hi, hs]
theorem run_fieldAt {P : Program} {w : World} {s : TypeId} {fs : Array Field} {f : Field} {j b o : Nat} (hu : P.underlying s = some (.struct fs)) (hf : fs[j]? = some f) (hz : csz P f.type ≠ 0) :
    (Instr.fieldAt s (.pointer (some ⟨b, o, none⟩)) j).run P w = .ok (.pointer (some ⟨b, o + f.offset, none⟩)) w := by
  simp [Instr.fieldAt, run_underlying hu, hf, Instr.sureAddr, fieldPlace, run_sizeOf_ne hz, hz, Addr.add_mid]

theorem drop_get {T : Type} {l : List T} {o i : Nat} {x : T} (h : (l.drop o)[i]? = some x) : l[o + i]? = some x := by
  rw [List.getElem?_drop] at h; exact h
theorem RepPV.rp_drop {P : Program} {μ : Ro} {cs : List PV} {b o : Nat} (n : Nat) (h : RepPV P μ (.rp cs) (.pointer (some ⟨b, o, none⟩))) : RepPV P μ (.rp (cs.drop n)) (.pointer (some ⟨b, o + n, none⟩)) := by
  cases h with
  | rp X h1 h2 h3 =>
    refine .rp (fun i => X (n + i)) (fun i p hi => ?_) (fun i p hi => h2 _ p (drop_get hi)) (fun i hi => h3 _ ?_)
    · have := h1 _ p (drop_get hi)
      rw [Nat.add_assoc]; exact this
    · simp at hi; omega

theorem xfieldAddr_ok {s : TypeId} {x : V} {j : Nat} {k : V → Option R} {r : R} (h : xfieldAddr E s x j k = some r) :
    ∃ v, (∀ (R' : Type) (k' : V → Option R'), xfieldAddr E s x j k' = k' v) ∧ k v = some r ∧ (∀ id, v.has id = x.has id) ∧
    ∀ (μ : Ro) (φ : Nat → Phys) (w : World) (y : Value), RepV E.P μ φ x y → ∃ z, (Instr.fieldAt s y j).run E.P w = .ok z w ∧ RepV E.P μ φ v z := by
  unfold xfieldAddr at h
  split at h
  · rename_i o t ho
    obtain ⟨fs, f, hu, hf, rfl, rfl, hz⟩ := fieldOff_ok ho
    split at h
    · rename_i cs
      refine ⟨_, fun R' k' => by simp [xfieldAddr, ho], h, by simp, fun μ φ w y hy => ?_⟩
      cases hy with
      | pv hp => cases hp with
        | rp X h1 h2 h3 => exact ⟨_, run_fieldAt hu hf hz, .pv (RepPV.rp_drop _ (.rp X h1 h2 h3))⟩
    · rename_i id off
      refine ⟨_, fun R' k' => by simp [xfieldAddr, ho], h, by simp [V.has], fun μ φ w y hy => ?_⟩
      cases hy with
      | op hg => exact ⟨_, run_fieldAt hu hf hz, .op hg⟩
    · rename_i id i off
      refine ⟨_, fun R' k' => by simp [xfieldAddr, ho], h, by simp [V.has], fun μ φ w y hy => ?_⟩
      cases hy with
      | oe hg => exact ⟨_, run_fieldAt hu hf hz, by rw [Nat.add_assoc]; exact .oe hg⟩
    · refine ⟨_, fun R' k' => by simp [xfieldAddr, ho], h, by simp [V.has], fun μ φ w y hy => ?_⟩
      cases hy with
      | oe2 hg hs => exact ⟨_, run_fieldAt hu hf hz, by rw [Nat.add_assoc]; exact .oe2 hg hs⟩
    · cases h
  · cases h

theorem run_indexAt_sl {P : Program} {w : World} {t e : TypeId} {q : IntKind} {i : Int} {ad : Addr} {len cap : Nat} (hu : P.underlying t = some (.slice e)) (hz : csz P e ≠ 0) (h0 : 0 ≤ i) (h1 : i < (len : Int)) :
    (Instr.indexAt t (.slice (some ad) len cap) (.int q i)).run P w = .ok (.pointer (some (ad.add (i.toNat * csz P e)))) w := by
  simp [Instr.indexAt, asIntOf, run_underlying hu, h0, h1, run_sizeOf_ne hz]
theorem run_indexAt_arr {P : Program} {w : World} {t e : TypeId} {n : Nat} {q : IntKind} {i : Int} {ad : Addr} (hu : P.underlying t = some (.array n e)) (hz : csz P e ≠ 0) (h0 : 0 ≤ i) (h1 : i < (n : Int)) :
    (Instr.indexAt t (.pointer (some ad)) (.int q i)).run P w = .ok (.pointer (some (ad.add (i.toNat * csz P e)))) w := by
  simp [Instr.indexAt, asIntOf, run_underlying hu, h0, h1, run_sizeOf_ne hz, Instr.sureAddr]

theorem idxP_ok {es : List PV} {i : Int} {p : PV} (h : idxP es i = some p) : 0 ≤ i ∧ es[i.toNat]? = some p ∧ i < (es.length : Int) := by
  unfold idxP at h
  split at h
  · rename_i h0
    have := (List.getElem?_eq_some_iff.1 h).1
    exact ⟨h0, h, by omega⟩
  · cases h
theorem RepPV.rs_elem {P : Program} {μ : Ro} {sz : Nat} {es : List PV} {x : Value} {n : Nat} {p : PV} (h : RepPV P μ (.rs sz es) x) (hp : es[n]? = some p) :
    ∃ b o cap, x = .slice (some ⟨b, o, none⟩) es.length cap ∧ RepPV P μ (.rp (elemCells sz p)) (.pointer (some ⟨b, o + n * sz, none⟩)) := by
  cases h with
  | rsNil => simp at hp
  | rsE _ => simp at hp
  | @rs _ _ b o cap X h1 h2 h3 h4 h5 h6 =>
    refine ⟨b, o, cap, rfl, ?_⟩
    rw [elemCells_eq (h3 n p hp)]
    exact .rp (X n) (fun i q hi => h4 n p i q hp hi) (fun i q hi => h5 n p i q hp hi) (fun i hi => h6 n p i _ hp (List.getElem?_eq_getElem hi))

theorem xindexAddr_ok {t : TypeId} {x ix : V} {m : Mem} {k : V → Foot → Option R} {r : R} (h : xindexAddr E t x ix m k = some r) :
    ∃ v ft, (∀ m2 : Mem, (∀ x ∈ ft, m2 x.2 = m x.2) → ∀ (R' : Type) (k' : V → Foot → Option R'), xindexAddr E t x ix m2 k' = k' v ft) ∧ k v ft = some r ∧ (∀ x ∈ ft, x.1 = false) ∧ (∀ id, v.has id = true → x.has id = true) ∧
    ∀ (G : Nat → Option (List PV)) (w0 : Base) (μ : Ro) (φ : Nat → Phys) (w : World) (y z : Value), RelM E.P G w0 μ φ m w → RepV E.P μ φ x y → RepV E.P μ φ ix z →
      ∃ u, (Instr.indexAt t y z).run E.P w = .ok u w ∧ RepV E.P μ φ v u := by
  unfold xindexAddr at h
  split at h
  · rename_i q i
    split at h
    · rename_i e s es hu
      split at h
      · rename_i hs
        obtain ⟨p, hp, hk⟩ := Option.bind_eq_some_iff.1 h
        refine ⟨_, _, fun m2 _ R' k' => by simp only [xindexAddr, hu]; rw [if_pos hs, hp]; rfl, hk, by simp, by simp, fun G w0 μ φ w y z hM hy hz => ?_⟩
        obtain ⟨h0, hp, hl⟩ := idxP_ok hp
        cases hz with
        | pv hz => cases hz with
          | int hwf =>
            cases hy with
            | pv hy =>
              obtain ⟨b, o, cap, rfl, hr⟩ := hy.rs_elem hp
              refine ⟨_, run_indexAt_sl hu (by omega) h0 hl, ?_⟩
              rw [Addr.add_mid, ← hs.1]
              exact .pv hr
      · cases h
    · rename_i e id hu
      have key : ∀ (s : Nat) (et : TypeId) (es : List PV), (m id = some (.arr s et es) ∨ m id = some (.fro s et es)) → s = csz E.P e ∧ 0 < s → inRange i es.length →
          ∀ (G : Nat → Option (List PV)) (w0 : Base) (μ : Ro) (φ : Nat → Phys) (w : World) (y z : Value), RelM E.P G w0 μ φ m w → RepV E.P μ φ (.os id) y → RepV E.P μ φ (.pv (.int q i)) z →
            ∃ u, (Instr.indexAt t y z).run E.P w = .ok u w ∧ RepV E.P μ φ (.oe id i.toNat 0) u := by
        intro s et es hm hs hr G w0 μ φ w y z hM hy hz
        have hA : RepArr E.P μ φ w id s et es := by
          rcases hm with hm | hm
          · exact hM.blk id _ hm
          · exact (hM.blk id _ hm).1
        obtain ⟨a1, a2, a3, a4, a5, a6, a7⟩ := hA
        cases hz with
        | pv hz => cases hz with
          | int hwf =>
            cases hy with
            | osN hg => rw [hg] at a7; rw [a7.1] at hr; simp [inRange] at hr; omega
            | @os _ g hg =>
              refine ⟨_, run_indexAt_sl hu (by omega) hr.1 (by rw [a1]; exact hr.2), ?_⟩
              rw [Addr.add_mid]
              have := RepV.oe (P := E.P) (μ := μ) (φ := φ) (id := id) (i := i.toNat) (off := 0) hg
              rw [a2, hs.1] at this
              simpa using this
      split at h
      · rename_i s et es hm
        split at h
        · rename_i hs
          split at h
          · rename_i hr
            exact ⟨_, _, fun m2 hm2 R' k' => by have := hm2 (false, id) (by simp); simp only at this; simp only [xindexAddr, hu, this, hm]; rw [if_pos hs, if_pos hr], h, by simp, by simp [V.has], key s et es (.inl hm) hs hr⟩
          · cases h
        · cases h
      · rename_i s et es hm
        split at h
        · rename_i hs
          split at h
          · rename_i hr
            exact ⟨_, _, fun m2 hm2 R' k' => by have := hm2 (false, id) (by simp); simp only at this; simp only [xindexAddr, hu, this, hm]; rw [if_pos hs, if_pos hr], h, by simp, by simp [V.has], key s et es (.inr hm) hs hr⟩
          · cases h
        · cases h
      · rename_i s et es hm
        split at h
        · rename_i hs
          split at h
          · rename_i hr
            refine ⟨_, _, fun m2 hm2 R' k' => by have := hm2 (false, id) (by simp); simp only at this; simp only [xindexAddr, hu, this, hm]; rw [if_pos hs, if_pos hr], h, by simp, by simp [V.has], fun G w0 μ φ w y z hM hy hz => ?_⟩
            have hA : RepNest E.P μ φ w id s et es := hM.blk id _ hm
            obtain ⟨a1, a2, a3, a4, a5, a6, a7⟩ := hA
            cases hz with
            | pv hz => cases hz with
              | int hwf =>
                cases hy with
                | osN hg => rw [hg] at a7; rw [a7.1] at hr; simp [inRange] at hr; omega
                | @os _ g hg =>
                  refine ⟨_, run_indexAt_sl hu (by omega) hr.1 (by rw [a1]; exact hr.2), ?_⟩
                  rw [Addr.add_mid]
                  have := RepV.oe (P := E.P) (μ := μ) (φ := φ) (id := id) (i := i.toNat) (off := 0) hg
                  rw [a2, hs.1] at this
                  simpa using this
          · cases h
        · cases h
      · rename_i cs hm
        split at h
        · rename_i hs
          refine ⟨_, _, fun m2 hm2 R' k' => by have := hm2 (false, id) (by simp); simp only at this; simp only [xindexAddr, hu, this, hm]; rw [if_pos hs], h, by simp, by simp [V.has], fun G w0 μ φ w y z hM hy hz => ?_⟩
          obtain ⟨g, c, T, hg, hh, hsz, hv, hone, hln⟩ := hM.blk id _ hm
          cases hz with
          | pv hz => cases hz with
            | int hwf =>
              cases hy with
              | osN hg' => rw [hg] at hg'; cases hg'
              | @os _ g' hg' =>
                refine ⟨_, run_indexAt_sl hu (by omega) hs.2.1 (by rw [hln]; exact hs.2.2), ?_⟩
                rw [Addr.add_mid, hs.1]
                have := RepV.op (P := E.P) (μ := μ) (φ := φ) (id := id) (off := i.toNat) hg'
                simpa using this
        · cases h
      · cases h
    · rename_i e id i0 off hu
      split at h
      · rename_i s0 et0 es hm
        split at h
        · rename_i hpos
          obtain ⟨e0, he, h⟩ := Option.bind_eq_some_iff.1 h
          obtain ⟨rs, hrr, h⟩ := Option.bind_eq_some_iff.1 h
          split at h
          · rename_i hr
            refine ⟨_, _, fun m2 hm2 R' k' => by have := hm2 (false, id) (by simp); simp only at this; simp only [xindexAddr, hu, this, hm]; rw [if_pos hpos, he]; simp only [Option.bind_some, hrr]; rw [if_pos hr], h, by simp, by simp [V.has], fun G w0 μ φ w y z hM hy hz => ?_⟩
            have hN : RepNest E.P μ φ w id s0 et0 es := hM.blk id _ hm
            obtain ⟨_, _, _, _, ⟨⟨et', hA⟩, _⟩, _⟩ := hN.row he hrr
            obtain ⟨a1, a2, a3, a4, a5, a6, a7⟩ := hA
            cases hz with
            | pv hz => cases hz with
              | int hwf =>
                cases hy with
                | os2N hg =>
                  have hg' : ((φ id).row i0 off).up.g = none := hg
                  simp only [hg'] at a7; rw [a7.1] at hr; simp [inRange] at hr; omega
                | @os2 _ _ _ g hg =>
                  have a1' : ((φ id).row i0 off).len = rs.length := a1
                  refine ⟨_, run_indexAt_sl hu (by omega) hr.1 (by rw [a1']; exact hr.2), ?_⟩
                  rw [Addr.add_mid]
                  have := RepV.oe2 (P := E.P) (μ := μ) (φ := φ) (id := id) (i := i0) (off := off) (s := csz E.P e) (j := i.toNat) (off2 := 0) hg a2
                  simpa using this
          · cases h
        · cases h
      · cases h
    · rename_i e id lo len hu
      have key : ∀ (s : Nat) (et : TypeId) (es : List PV), (m id = some (.arr s et es) ∨ m id = some (.fro s et es)) → s = csz E.P e ∧ 0 < s → inRange i len →
          ∀ (G : Nat → Option (List PV)) (w0 : Base) (μ : Ro) (φ : Nat → Phys) (w : World) (y z : Value), RelM E.P G w0 μ φ m w → RepV E.P μ φ (.osub id lo len) y → RepV E.P μ φ (.pv (.int q i)) z →
            ∃ u, (Instr.indexAt t y z).run E.P w = .ok u w ∧ RepV E.P μ φ (.oe id (lo + i.toNat) 0) u := by
        intro s et es hm hs hr G w0 μ φ w y z hM hy hz
        have hA : RepArr E.P μ φ w id s et es := by
          rcases hm with hm | hm
          · exact hM.blk id _ hm
          · exact (hM.blk id _ hm).1
        obtain ⟨a1, a2, a3, a4, a5, a6, a7⟩ := hA
        cases hz with
        | pv hz => cases hz with
          | int hwf =>
            cases hy with
            | osubN hg => simp [inRange] at hr; omega
            | @osub _ _ _ cap' g ad hg hl ha hc1 hc2 =>
              have ha := ha.resolve_right fun hh => by
                have := hr.1; have := hr.2
                omega
              subst ha
              refine ⟨_, run_indexAt_sl hu (by omega) hr.1 hr.2, ?_⟩
              rw [Addr.add_mid]
              have := RepV.oe (P := E.P) (μ := μ) (φ := φ) (id := id) (i := lo + i.toNat) (off := 0) hg
              rw [a2, hs.1] at this
              rw [a2, hs.1]
              simpa [Nat.add_mul] using this
      split at h
      · rename_i s et es hm
        split at h
        · rename_i hs
          split at h
          · rename_i hr
            exact ⟨_, _, fun m2 hm2 R' k' => by have := hm2 (false, id) (by simp); simp only at this; simp only [xindexAddr, hu, this, hm]; rw [if_pos hs, if_pos hr], h, by simp, by simp [V.has], key s et es (.inl hm) hs hr⟩
          · cases h
        · cases h
      · rename_i s et es hm
        split at h
        · rename_i hs
          split at h
          · rename_i hr
            exact ⟨_, _, fun m2 hm2 R' k' => by have := hm2 (false, id) (by simp); simp only at this; simp only [xindexAddr, hu, this, hm]; rw [if_pos hs, if_pos hr], h, by simp, by simp [V.has], key s et es (.inr hm) hs hr⟩
          · cases h
        · cases h
      · cases h
    · rename_i n e id off hu
      split at h
      · rename_i hr
        refine ⟨_, _, fun m2 _ R' k' => by simp only [xindexAddr, hu]; rw [if_pos hr], h, by simp, by simp [V.has], fun G w0 μ φ w y z hM hy hz => ?_⟩
        cases hz with
        | pv hz => cases hz with
          | int hwf =>
            cases hy with
            | op hg => exact ⟨_, run_indexAt_arr hu (by omega) hr.1.1 hr.1.2, by rw [Addr.add_mid]; exact .op hg⟩
      · cases h
    · rename_i n e cs hu
      split at h
      · rename_i hr
        refine ⟨_, _, fun m2 _ R' k' => by simp only [xindexAddr, hu]; rw [if_pos hr], h, by simp, by simp, fun G w0 μ φ w y z hM hy hz => ?_⟩
        cases hz with
        | pv hz => cases hz with
          | int hwf =>
            cases hy with
            | pv hy => cases hy with
              | rp X h1 h2 h3 => exact ⟨_, run_indexAt_arr hu (by omega) hr.1.1 hr.1.2, by rw [Addr.add_mid]; exact .pv (RepPV.rp_drop _ (.rp X h1 h2 h3))⟩
      · cases h
    · rename_i n e id j off hu
      split at h
      · rename_i hr
        refine ⟨_, _, fun m2 _ R' k' => by simp only [xindexAddr, hu]; rw [if_pos hr], h, by simp, by simp [V.has], fun G w0 μ φ w y z hM hy hz => ?_⟩
        cases hz with
        | pv hz => cases hz with
          | int hwf =>
            cases hy with
            | oe hg => exact ⟨_, run_indexAt_arr hu (by omega) hr.1.1 hr.1.2, by rw [Addr.add_mid, Nat.add_assoc]; exact .oe hg⟩
      · cases h
    · cases h
  · cases h
theorem aggCells_ok {x : V} {cs : List V} (h : aggCells x = some cs) : (∀ id, hasL id cs = true → x.has id = true) ∧
    ∀ (P : Program) (μ : Ro) (φ : Nat → Phys) y, RepV P μ φ x y → ∃ xs : Array Value, y = .agg xs ∧ cs.length = xs.size ∧ (∀ (i : Nat) p x, cs[i]? = some p → xs[i]? = some x → RepV P μ φ p x) ∧ (∀ (i : Nat) (x : Value), xs[i]? = some x → x.oneCell' = true) := by
  unfold aggCells at h
  split at h
  · simp only [Option.some.injEq] at h; subst h
    refine ⟨fun id hid => (by rw [hasL_pv] at hid; cases hid), fun P μ φ y hy => ?_⟩
    cases hy with
    | pv hy => cases hy with
      | agg h1 h2 h3 =>
        refine ⟨_, rfl, by simpa using h1, fun i p x hi hx => ?_, h3⟩
        simp only [List.getElem?_map, Option.map_eq_some_iff] at hi
        obtain ⟨q, hq, rfl⟩ := hi
        exact .pv (h2 i q x hq hx)
  · simp only [Option.some.injEq] at h; subst h
    refine ⟨fun id hid => by simpa [V.has] using hid, fun P μ φ y hy => ?_⟩
    cases hy with
    | agg h1 h2 h3 => exact ⟨_, rfl, h1, h2, h3⟩
  · cases h
theorem run_part_agg {P : Program} {w : World} {t : TypeId} {xs : Array Value} {off : Nat} (ha : isAggT P t = true) : (part t xs off).run P w = .ok (.agg (xs.extract off (off + csz P t))) w := by
  obtain ⟨d, hu, _⟩ := isAggT_und ha
  simp [part, run_isAgg hu, ha, run_sizeOf' hu]
theorem run_part_one {P : Program} {w : World} {t : TypeId} {d : TypeDesc} {xs : Array Value} {off : Nat} {y : Value} (hu : P.underlying t = some d) (ha : isAggT P t = false) (hy : xs[off]? = some y) : (part t xs off).run P w = .ok y w := by
  simp [part, run_isAgg hu, ha, hy]
theorem partV_ok {t : TypeId} {cs : List V} {off : Nat} {k : V → Option R} {r : R} (h : partV E t cs off k = some r) :
    ∃ v, (∀ (R' : Type) (k' : V → Option R'), partV E t cs off k' = k' v) ∧ k v = some r ∧ (∀ id, v.has id = true → hasL id cs = true) ∧
    ∀ (μ : Ro) (φ : Nat → Phys) (w : World) (xs : Array Value), cs.length = xs.size → (∀ (i : Nat) p x, cs[i]? = some p → xs[i]? = some x → RepV E.P μ φ p x) → (∀ (i : Nat) (x : Value), xs[i]? = some x → x.oneCell' = true) →
      ∃ z, (part t xs off).run E.P w = .ok z w ∧ RepV E.P μ φ v z := by
  unfold partV at h
  split at h
  · rename_i ha
    split at h
    · rename_i hn
      refine ⟨_, fun R' k' => by simp [partV, ha, hn], h, fun id hid => ?_, fun μ φ w xs h1 h2 h3 => ⟨_, run_part_agg ha, ?_⟩⟩
      · simp only [V.has] at hid
        obtain ⟨v, hv, hh⟩ := hasL_iff.1 hid
        exact hasL_mem (List.mem_of_mem_drop (List.mem_of_mem_take hv)) hh
      · refine .agg (by simp; omega) (fun i p x hi hx => ?_) (fun i x hx => ?_)
        · obtain ⟨_, hi⟩ := take_drop_get hi
          rw [Array.getElem?_extract] at hx
          split at hx
          · exact h2 _ p x hi hx
          · cases hx
        · rw [Array.getElem?_extract] at hx
          split at hx
          · exact h3 _ x hx
          · cases hx
    · cases h
  · rename_i ha
    have ha : isAggT E.P t = false := by simpa using ha
    split at h
    · rename_i v hv
      obtain ⟨u, h1, h2, h3, h4⟩ := ldTyV_ok h
      obtain ⟨d, hu⟩ := ldTyV_und h
      refine ⟨u, fun R' k' => by simp [partV, ha, hv, h1], h2, fun id hid => hasL_mem (List.mem_of_getElem? hv) (h4 id hid), fun μ φ w xs g1 g2 g3 => ?_⟩
      have hlt : off < cs.length := (List.getElem?_eq_some_iff.1 hv).1
      have hx : xs[off]? = some xs[off] := Array.getElem?_eq_getElem (by omega)
      exact ⟨_, run_part_one hu ha hx, h3 _ _ _ _ (g2 off v _ hv hx)⟩
    · cases h
theorem xfield_ok {s : TypeId} {x : V} {j : Nat} {k : V → Option R} {r : R} (h : xfield E s x j k = some r) :
    ∃ v, (∀ (R' : Type) (k' : V → Option R'), xfield E s x j k' = k' v) ∧ k v = some r ∧ (∀ id, v.has id = true → x.has id = true) ∧
    ∀ (μ : Ro) (φ : Nat → Phys) (w : World) (y : Value), RepV E.P μ φ x y → ∃ z, (Instr.field s y j).run E.P w = .ok z w ∧ RepV E.P μ φ v z := by
  unfold xfield at h
  split at h
  · rename_i o t cs ho hc
    obtain ⟨fs, f, hu, hf, rfl, rfl, hz⟩ := fieldOff_ok ho
    obtain ⟨v, h1, h2, h3, h4⟩ := partV_ok h
    obtain ⟨c1, c2⟩ := aggCells_ok hc
    refine ⟨v, fun R' k' => by simp [xfield, ho, hc, h1], h2, fun id hid => c1 id (h3 id hid), fun μ φ w y hy => ?_⟩
    obtain ⟨xs, rfl, g1, g2, g3⟩ := c2 _ _ _ _ hy
    obtain ⟨z, hz, hv⟩ := h4 μ φ w xs g1 g2 g3
    exact ⟨z, by simp [Instr.field, run_underlying hu, hf, Go.asAgg, hz], hv⟩
  · cases h
theorem wf_u8 (b : UInt8) : (Lit.int .u8 b.toNat).wf = true := by
  rw [wf_bool]
  have := b.toNat_lt
  simp [IntKind.min, IntKind.max, IntKind.signed, IntKind.bits]
  omega
theorem xindex_ok {t : TypeId} {x ix : V} {k : V → Option R} {r : R} (h : xindex E t x ix k = some r) :
    ∃ v, (∀ (R' : Type) (k' : V → Option R'), xindex E t x ix k' = k' v) ∧ k v = some r ∧ (∀ id, v.has id = true → x.has id = true) ∧
    ∀ (μ : Ro) (φ : Nat → Phys) (w : World) (y z : Value), RepV E.P μ φ x y → RepV E.P μ φ ix z → ∃ u, (Instr.index t y z).run E.P w = .ok u w ∧ RepV E.P μ φ v u := by
  unfold xindex at h
  split at h
  · rename_i q i
    split at h
    · rename_i s hu
      obtain ⟨b, hb, hk⟩ := Option.bind_eq_some_iff.1 h
      refine ⟨_, fun R' k' => by simp [xindex, hu, hb], hk, by simp, fun μ φ w y z hy hz => ?_⟩
      cases hz with
      | pv hz => cases hz with
        | int hwf =>
          cases hy with
          | pv hy => cases hy with
            | str hl =>
              unfold idxB at hb
              split at hb
              · rename_i h0
                have hlt := (List.getElem?_eq_some_iff.1 hb).1
                have hb' : (⟨s.toArray⟩ : ByteArray)[i.toNat]? = some b := by
                  rw [getElem?_def]
                  have : i.toNat < (⟨s.toArray⟩ : ByteArray).size := by simpa [ByteArray.size] using hlt
                  rw [dif_pos this]
                  have e := (List.getElem?_eq_some_iff.1 hb).2
                  simp only [Option.some.injEq]
                  rw [← e]; rfl
                refine ⟨_, ?_, .pv (.int (wf_u8 b))⟩
                simp [Instr.index, asIntOf, run_underlying hu, h0, hb']
              · cases hb
    · rename_i n et hu
      split at h
      · rename_i cs hc
        split at h
        · rename_i hn
          obtain ⟨v, h1, h2, h3, h4⟩ := partV_ok h
          obtain ⟨c1, c2⟩ := aggCells_ok hc
          refine ⟨v, fun R' k' => by simp only [xindex, hu, hc]; rw [if_pos hn, h1], h2, fun id hid => c1 id (h3 id hid), fun μ φ w y z hy hz => ?_⟩
          obtain ⟨xs, rfl, g1, g2, g3⟩ := c2 _ _ _ _ hy
          obtain ⟨u, hu1, hv⟩ := h4 μ φ w xs g1 g2 g3
          cases hz with
          | pv hz => cases hz with
            | int hwf =>
              refine ⟨u, ?_, hv⟩
              have hr := hn.1
              unfold inRange at hr
              simp [Instr.index, asIntOf, run_underlying hu, hr.1, hr.2, run_sizeOf_ne (show csz E.P et ≠ 0 by omega), hu1]
        · cases h
      · cases h
    · cases h
  · cases h
end
end Go.Ab

set_option linter.unusedVariables false
namespace Go.Ab
open Go.RowKit (Below)

section
variable {R : Type} {E : Env}

theorem size_str (s : Bytes) : (⟨s.toArray⟩ : ByteArray).size = s.length := by
  show s.toArray.size = _
  simp
theorem wf_len {n : Nat} (h : n ≤ maxLen) : (Lit.int .i64 (n : Int)).wf = true := by
  rw [wf_bool]
  simp only [maxLen] at h
  simp [IntKind.min, IntKind.max, IntKind.signed, IntKind.bits]
  omega

theorem rs_len {P : Program} {μ : Ro} {sz : Nat} {es : List PV} {x : Value} (h : RepPV P μ (.rs sz es) x) : ∃ a cap, x = .slice a es.length cap ∧ es.length ≤ maxLen := by
  cases h with
  | rsNil => exact ⟨none, 0, rfl, by simp⟩
  | @rsE _ cap a h => exact ⟨some a, cap, rfl, by simp⟩
  | rs X h1 h2 => exact ⟨_, _, rfl, by omega⟩

theorem RelM.arr {G : Nat → Option (List PV)} {P : Program} {w0 : Base} {μ : Ro} {φ : Nat → Phys} {m : Mem} {w : World} (hM : RelM P G w0 μ φ m w) {id s : Nat} {et : TypeId} {es : List PV}
    (hm : m id = some (.arr s et es) ∨ m id = some (.fro s et es)) : RepArr P μ φ w id s et es := by
  rcases hm with hm | hm
  · exact hM.blk id _ hm
  · exact (hM.blk id _ hm).1
theorem RepArr.lenLe {P : Program} {μ : Ro} {φ : Nat → Phys} {w : World} {id s : Nat} {et : TypeId} {es : List PV} (h : RepArr P μ φ w id s et es) : es.length ≤ (φ id).cap ∧ (φ id).cap ≤ maxLen := by
  obtain ⟨a1, a2, a3, a4, a5, a6, a7⟩ := h
  refine ⟨?_, a6⟩
  split at a7
  · rw [a7.1, a7.2]; simp
  · obtain ⟨c, _, _, c3, _⟩ := a7; exact c3

theorem lenV_ok {x : V} {m : Mem} {k : Nat → Foot → Option R} {r : R} (h : lenV m x k = some r) :
    ∃ n ft, (∀ m2 : Mem, (∀ x ∈ ft, m2 x.2 = m x.2) → ∀ (R' : Type) (k' : Nat → Foot → Option R'), lenV m2 x k' = k' n ft) ∧ k n ft = some r ∧ (∀ x ∈ ft, x.1 = false) ∧
    ∀ (P : Program) (G : Nat → Option (List PV)) (w0 : Base) (μ : Ro) (φ : Nat → Phys) (w : World) (y : Value), RelM P G w0 μ φ m w → RepV P μ φ x y → (∀ id, x.has id = true → (m id).isSome = true) → n ≤ maxLen ∧ ∃ a cap, y = .slice a n cap := by
  unfold lenV at h
  split at h
  · refine ⟨_, _, fun m2 _ R' k' => by simp [lenV], h, by simp, fun P G w0 μ φ w y hM hy _ => ?_⟩
    cases hy with
    | pv hy => obtain ⟨a, cap, rfl, hl⟩ := rs_len hy; exact ⟨hl, _, _, rfl⟩
  · refine ⟨_, _, fun m2 _ R' k' => by simp [lenV], h, by simp, fun P G w0 μ φ w y hM hy _ => ?_⟩
    cases hy; exact ⟨by simp, _, _, rfl⟩
  · rename_i id lo len
    have key : ∀ (s : Nat) (et : TypeId) (es : List PV), (m id = some (.arr s et es) ∨ m id = some (.fro s et es)) →
        ∀ (P : Program) (G : Nat → Option (List PV)) (w0 : Base) (μ : Ro) (φ : Nat → Phys) (w : World) (y : Value), RelM P G w0 μ φ m w → RepV P μ φ (.osub id lo len) y → len ≤ maxLen ∧ ∃ a cap, y = .slice a len cap := by
      intro s et es hm P G w0 μ φ w y hM hy
      have hA := hM.arr hm
      have hl := hA.lenLe
      cases hy with
      | osubN => exact ⟨by simp, _, _, rfl⟩
      | osub hg hl' ha => have := hA.1; exact ⟨by omega, _, _, rfl⟩
    split at h
    · rename_i s et es hm
      exact ⟨_, _, fun m2 hm2 R' k' => by have := hm2 (false, id) (by simp); simp only at this; simp [lenV, this, hm], h, by simp, fun P G w0 μ φ w y hM hy _ => key s et es (.inl hm) P G w0 μ φ w y hM hy⟩
    · rename_i s et es hm
      exact ⟨_, _, fun m2 hm2 R' k' => by have := hm2 (false, id) (by simp); simp only at this; simp [lenV, this, hm], h, by simp, fun P G w0 μ φ w y hM hy _ => key s et es (.inr hm) P G w0 μ φ w y hM hy⟩
    · cases h
  · rename_i id
    split at h
    · rename_i s et es hm
      refine ⟨_, _, fun m2 hm2 R' k' => by have := hm2 (false, id) (by simp); simp only at this; simp [lenV, this, hm], h, by simp, fun P G w0 μ φ w y hM hy _ => ?_⟩
      have hA := hM.arr (.inl hm)
      have hl := hA.lenLe
      obtain ⟨a1, a2, a3, a4, a5, a6, a7⟩ := hA
      refine ⟨by omega, ?_⟩
      cases hy with
      | osN hg => rw [hg] at a7; simp only [a7.1]; exact ⟨_, _, rfl⟩
      | os hg => rw [a1]; exact ⟨_, _, rfl⟩
    · rename_i s et es hm
      refine ⟨_, _, fun m2 hm2 R' k' => by have := hm2 (false, id) (by simp); simp only at this; simp [lenV, this, hm], h, by simp, fun P G w0 μ φ w y hM hy _ => ?_⟩
      have hA := hM.arr (.inr hm)
      have hl := hA.lenLe
      obtain ⟨a1, a2, a3, a4, a5, a6, a7⟩ := hA
      refine ⟨by omega, ?_⟩
      cases hy with
      | osN hg => rw [hg] at a7; simp only [a7.1]; exact ⟨_, _, rfl⟩
      | os hg => rw [a1]; exact ⟨_, _, rfl⟩
    · rename_i s et es hm
      refine ⟨_, _, fun m2 hm2 R' k' => by have := hm2 (false, id) (by simp); simp only at this; simp [lenV, this, hm], h, by simp, fun P G w0 μ φ w y hM hy _ => ?_⟩
      have hA : RepNest P μ φ w id s et es := hM.blk id _ hm
      obtain ⟨a1, a2, a3, a4, a5, a6, a7⟩ := hA
      have hl : es.length ≤ (φ id).cap := by
        split at a7
        · rw [a7.1]; simp
        · obtain ⟨c, _, _, c3, _⟩ := a7; exact c3
      refine ⟨by omega, ?_⟩
      cases hy with
      | osN hg => rw [hg] at a7; simp only [a7.1]; exact ⟨_, _, rfl⟩
      | os hg => rw [a1]; exact ⟨_, _, rfl⟩
    · rename_i cs hm
      split at h
      · rename_i hlen
        refine ⟨_, _, fun m2 hm2 R' k' => by have := hm2 (false, id) (by simp); simp only at this; simp [lenV, this, hm, hlen], h, by simp, fun P G w0 μ φ w y hM hy _ => ?_⟩
        obtain ⟨g, c, T, hg, hh, hs, hv, hone, hln⟩ := hM.blk id _ hm
        refine ⟨hlen, ?_⟩
        cases hy with
        | osN hg' => rw [hg] at hg'; cases hg'
        | os hg' => rw [hln]; exact ⟨_, _, rfl⟩
      · cases h
    · cases h
  · cases h
theorem lenR_ok {sz : Nat} {x : V} {m : Mem} {k : Nat → Foot → Option R} {r : R} (h : lenR sz m x k = some r) :
    ∃ n ft, (∀ m2 : Mem, (∀ x ∈ ft, m2 x.2 = m x.2) → ∀ (R' : Type) (k' : Nat → Foot → Option R'), lenR sz m2 x k' = k' n ft) ∧ k n ft = some r ∧ (∀ x ∈ ft, x.1 = false) ∧
    ∀ (P : Program) (G : Nat → Option (List PV)) (w0 : Base) (μ : Ro) (φ : Nat → Phys) (w : World) (y : Value), RelM P G w0 μ φ m w → RepV P μ φ x y → (∀ id, x.has id = true → (m id).isSome = true) → n ≤ maxLen ∧ ∃ a cap, y = .slice a n cap := by
  unfold lenR at h
  split at h
  · rename_i id i off
    split at h
    · rename_i s et es hm
      obtain ⟨e, he, h⟩ := Option.bind_eq_some_iff.1 h
      obtain ⟨rs, hr, h⟩ := Option.bind_eq_some_iff.1 h
      refine ⟨_, _, fun m2 hm2 R' k' => by have := hm2 (false, id) (by simp); simp only at this; simp [lenR, this, hm, he, hr], h, by simp, fun P G w0 μ φ w y hM hy _ => ?_⟩
      have hN : RepNest P μ φ w id s et es := hM.blk id _ hm
      obtain ⟨_, _, _, _, ⟨⟨et', hA⟩, _⟩, _⟩ := hN.row he hr
      have hl := hA.lenLe
      have a1 := hA.1
      refine ⟨by omega, ?_⟩
      have hy := hy.os2_to (ν := μ)
      cases hy with
      | osN hg =>
        have a7 := hA.2.2.2.2.2.2
        simp only [hg] at a7; simp only [a7.1]; exact ⟨_, _, rfl⟩
      | os hg => rw [a1]; exact ⟨_, _, rfl⟩
    · cases h
  · rename_i hne
    obtain ⟨n, ft, h1, h2, h3, h4⟩ := lenV_ok h
    refine ⟨n, ft, fun m2 hm2 R' k' => ?_, h2, h3, h4⟩
    unfold lenR
    split
    · exact absurd rfl (hne _ _ _)
    · exact h1 m2 hm2 R' k'
theorem lenM_ok {x : V} {m : Mem} {k : Nat → Foot → Option R} {r : R} (h : lenM m x k = some r) :
    ∃ n ft, (∀ m2 : Mem, (∀ x ∈ ft, m2 x.2 = m x.2) → ∀ (R' : Type) (k' : Nat → Foot → Option R'), lenM m2 x k' = k' n ft) ∧ k n ft = some r ∧ (∀ x ∈ ft, x.1 = false) ∧ n ≤ maxLen ∧
    ∀ (P : Program) (G : Nat → Option (List PV)) (w0 : Base) (μ : Ro) (φ : Nat → Phys) (w : World) (y : Value) (t kt et ty : TypeId), P.underlying t = some (.map kt et) → RelM P G w0 μ φ m w → RepV P μ φ x y →
      (Builtin.len_ #[t] ty #[y]).run P w = .ok (.int .i64 n) w := by
  unfold lenM at h
  split at h
  · rename_i id
    split at h
    · rename_i kt es hm
      split at h
      · rename_i hl
        refine ⟨_, _, fun m2 hm2 R' k' => by have := hm2 (false, id) (by simp); simp only at this; simp [lenM, this, hm, hl], h, by simp, hl, fun P G w0 μ φ w y t kt et ty hu hM hy => ?_⟩
        cases hy with
        | @om _ g hg =>
          obtain ⟨g', en, clock, kk, hg', hh, hs, _⟩ := hM.blk id _ hm
          rw [hg] at hg'; simp only [Option.some.injEq] at hg'; subst hg'
          simp [Builtin.len_, run_underlying hu, getObj, Sem.run, hh, goInt, hs]
      · cases h
    · cases h
  · refine ⟨_, _, fun m2 _ R' k' => by simp [lenM], h, by simp, by simp, fun P G w0 μ φ w y t kt et ty hu hM hy => ?_⟩
    cases hy with
    | pv hy => cases hy; simp [Builtin.len_, run_underlying hu, goInt]
  · cases h
theorem xlen_ok {t : TypeId} {x : V} {m : Mem} {k : V → Foot → Option R} {r : R} (h : xlen E t x m k = some r) :
    ∃ v ft, (∀ m2 : Mem, (∀ x ∈ ft, m2 x.2 = m x.2) → ∀ (R' : Type) (k' : V → Foot → Option R'), xlen E t x m2 k' = k' v ft) ∧ k v ft = some r ∧ (∀ x ∈ ft, x.1 = false) ∧ (∀ id, v.has id = false) ∧
    ∀ (G : Nat → Option (List PV)) (w0 : Base) (μ : Ro) (φ : Nat → Phys) (w : World) (y : Value) (ty : TypeId), RelM E.P G w0 μ φ m w → RepV E.P μ φ x y → (∀ id, x.has id = true → (m id).isSome = true) →
      ∃ z, (Builtin.len_ #[t] ty #[y]).run E.P w = .ok z w ∧ RepV E.P μ φ v z := by
  unfold xlen at h
  split at h
  · rename_i n e hu
    split at h
    · rename_i hn
      exact ⟨_, _, fun m2 _ R' k' => by simp [xlen, hu, hn], h, by simp, by simp, fun G w0 μ φ w y ty hM hy _ => ⟨_, by simp [Builtin.len_, run_underlying hu, goInt], .pv (.int (wf_len hn))⟩⟩
    · cases h
  · rename_i hu
    split at h
    · refine ⟨_, _, fun m2 _ R' k' => by simp [xlen, hu], h, by simp, by simp, fun G w0 μ φ w y ty hM hy _ => ?_⟩
      cases hy with
      | pv hy => cases hy with
        | @str s hl => exact ⟨_, by simp [Builtin.len_, run_underlying hu, goInt, size_str], .pv (.int (wf_len hl))⟩
    · cases h
  · rename_i e hu
    obtain ⟨n, ft, h1, h2, h3, h4⟩ := lenR_ok h
    refine ⟨_, ft, fun m2 hm2 R' k' => by simp only [xlen, hu]; rw [h1 m2 hm2], h2, h3, by simp, fun G w0 μ φ w y ty hM hy hq => ?_⟩
    obtain ⟨hl, a, cap, rfl⟩ := h4 _ _ _ _ _ _ _ hM hy hq
    exact ⟨_, by simp [Builtin.len_, run_underlying hu, goInt], .pv (.int (wf_len hl))⟩
  · rename_i kt et hu
    obtain ⟨n, ft, h1, h2, h3, hl, h4⟩ := lenM_ok h
    refine ⟨_, ft, fun m2 hm2 R' k' => by simp only [xlen, hu]; rw [h1 m2 hm2], h2, h3, by simp, fun G w0 μ φ w y ty hM hy hq => ?_⟩
    exact ⟨_, h4 _ _ _ _ _ _ _ _ _ _ _ hu hM hy, .pv (.int (wf_len hl))⟩
  · cases h
theorem boundOf_ok {d i : Int} {v : Option V} (h : boundOf d v = some i) : (v = none ∧ i = d) ∨ ∃ q, v = some (.pv (.int q i)) := by
  unfold boundOf at h
  split at h
  · simp only [Option.some.injEq] at h; exact .inl ⟨rfl, h.symm⟩
  · simp only [Option.some.injEq] at h; subst h; exact .inr ⟨_, rfl⟩
  · cases h
theorem run_sliceBound {P : Program} {w : World} {q : IntKind} {i : Int} {y : Nat} {code : BoundsCode} (h0 : 0 ≤ i) (h1 : i ≤ (y : Int)) : (Instr.sliceBound (.int q i) y code).run P w = .ok i.toNat w := by
  simp [Instr.sliceBound, asIntOf, h0, h1]
theorem run_sliceBounds {P : Program} {w : World} {isS : Bool} {len cap : Nat} {l h : Int} {lo hi : Option V} {lo' hi' : Option Value} {μ : Ro} {φ : Nat → Phys}
    (hl : boundOf 0 lo = some l) (hh : boundOf len hi = some h) (rl : ∀ v, lo = some v → ∃ y, lo' = some y ∧ RepV P μ φ v y) (rl0 : lo = none → lo' = none) (rh : ∀ v, hi = some v → ∃ y, hi' = some y ∧ RepV P μ φ v y) (rh0 : hi = none → hi' = none)
    (b0 : 0 ≤ l) (b1 : l ≤ h) (b2 : h ≤ (len : Int)) (b3 : len ≤ cap) :
    (Instr.sliceBounds isS len cap lo' hi' none).run P w = .ok (l.toNat, h.toNat, cap) w := by
  have e1 : ∃ y, (hi' = none ∧ h = len) ∨ (hi' = some y ∧ ∃ q, y = .int q h) := by
    rcases boundOf_ok hh with ⟨rfl, rfl⟩ | ⟨q, rfl⟩
    · exact ⟨undef, .inl ⟨rh0 rfl, rfl⟩⟩
    · obtain ⟨y, rfl, hy⟩ := rh _ rfl
      cases hy with
      | pv hy => cases hy with
        | int hw => exact ⟨_, .inr ⟨rfl, q, rfl⟩⟩
  have e2 : ∃ y, (lo' = none ∧ l = 0) ∨ (lo' = some y ∧ ∃ q, y = .int q l) := by
    rcases boundOf_ok hl with ⟨rfl, rfl⟩ | ⟨q, rfl⟩
    · exact ⟨undef, .inl ⟨rl0 rfl, rfl⟩⟩
    · obtain ⟨y, rfl, hy⟩ := rl _ rfl
      cases hy with
      | pv hy => cases hy with
        | int hw => exact ⟨_, .inr ⟨rfl, q, rfl⟩⟩
  clear rl rl0 rh rh0 hl hh
  obtain ⟨y, ⟨rfl, rfl⟩ | ⟨rfl, q, rfl⟩⟩ := e1 <;> obtain ⟨z, ⟨rfl, rfl⟩ | ⟨rfl, q', rfl⟩⟩ := e2
  · simp [Instr.sliceBounds]
  · have := @run_sliceBound P w q' l len BoundsCode.sliceB b0 (by omega)
    simp [Instr.sliceBounds, this]
  · have := @run_sliceBound P w q h cap (if isS then BoundsCode.sliceAcap else .sliceAlen) (by omega) (by omega)
    simp [Instr.sliceBounds, this]
  · have h1 := @run_sliceBound P w q h cap (if isS then BoundsCode.sliceAcap else .sliceAlen) (by omega) (by omega)
    have h2 := @run_sliceBound P w q' l h.toNat BoundsCode.sliceB b0 (by omega)
    simp [Instr.sliceBounds, h1, h2]

theorem str_slice {s : Bytes} {l h : Nat} (hl : l ≤ h) (hh : h ≤ s.length) : (⟨s.toArray⟩ : ByteArray).extract l h = ⟨((s.take h).drop l).toArray⟩ := by
  apply ByteArray.ext
  simp only [ByteArray.data_extract]
  apply Array.ext'
  simp [List.extract_eq_take_drop, List.drop_take]

theorem rs_slice {P : Program} {μ : Ro} {sz : Nat} {es : List PV} {x : Value} {l h : Nat} (hx : RepPV P μ (.rs sz es) x) (hl : l ≤ h) (hh : h ≤ es.length) :
    ∃ a cap, x = .slice a es.length cap ∧ es.length ≤ cap ∧ RepPV P μ (.rs sz ((es.take h).drop l)) (.slice (if cap = l then a else a.map (·.add (l * sz))) (h - l) (cap - l)) := by
  have hlen : ((es.take h).drop l).length = h - l := by simp; omega
  cases hx with
  | rsNil =>
    simp at hh; subst hh; have : l = 0 := by omega
    subst this
    exact ⟨none, 0, rfl, by simp, by simpa using RepPV.rsNil⟩
  | @rsE _ cap a hc =>
    simp at hh; subst hh; have : l = 0 := by omega
    subst this
    refine ⟨some a, cap, rfl, by simp, ?_⟩
    have : (if cap = 0 then some a else (some a).map (·.add (0 * sz))) = some a := by split <;> simp [Addr.add]
    rw [this]
    exact .rsE hc
  | @rs _ _ b o cap X h1 h2 h3 h4 h5 h6 =>
    refine ⟨_, cap, rfl, h1, ?_⟩
    have hget : ∀ (i : Nat) e, ((es.take h).drop l)[i]? = some e → es[l + i]? = some e := fun i e hi => (take_get (drop_get hi)).2
    by_cases hz : h = l
    · have : (es.take h).drop l = [] := List.eq_nil_of_length_eq_zero (by omega)
      rw [this]
      have hz' : h - l = 0 := by omega
      rw [hz']
      split
      · exact .rsE (by omega)
      · simp only [Option.map_some]; exact .rsE (by omega)
    · have hc : cap ≠ l := by omega
      rw [if_neg hc]
      simp only [Option.map_some, Addr.add_mid]
      have := RepPV.rs (P := P) (μ := μ) (sz := sz) (es := (es.take h).drop l) (b := b) (o := o + l * sz) (cap := cap - l) (fun i j => X (l + i) j) (by omega) (by omega)
        (fun i e hi => h3 _ e (hget i e hi)) (fun i e j p hi hj => by
          have := h4 _ e j p (hget i e hi) hj
          rw [Nat.add_mul] at this
          rw [← this]; congr 1; omega) (fun i e j p hi hj => h5 _ e j p (hget i e hi) hj) (fun i e j p hi hj => h6 _ e j p (hget i e hi) hj)
      rw [hlen] at this
      exact this

theorem run_slice_sl {P : Program} {w : World} {t e : TypeId} {a : Option Addr} {len cap l h : Nat} {lo' hi' : Option Value} (hu : P.underlying t = some (.slice e)) (hz : csz P e ≠ 0)
    (hb : (Instr.sliceBounds true len cap lo' hi' none).run P w = .ok (l, h, cap) w) :
    (Instr.sliceAt t (.slice a len cap) lo' hi' none).run P w = .ok (.slice (if cap = l then a else a.map (·.add (l * csz P e))) (h - l) (cap - l)) w := by
  simp [Instr.sliceAt, Instr.slice, run_underlying hu, hb, run_sizeOf_ne hz]

theorem xslice_ok {t : TypeId} {x : V} {lo hi mx : Option V} {m : Mem} {k : V → Foot → Option R} {r : R} (h : xslice E t x lo hi mx m k = some r) :
    ∃ v ft, (∀ m2 : Mem, (∀ x ∈ ft, m2 x.2 = m x.2) → ∀ (R' : Type) (k' : V → Foot → Option R'), xslice E t x lo hi mx m2 k' = k' v ft) ∧ k v ft = some r ∧ (∀ x ∈ ft, x.1 = false) ∧ (∀ id, v.has id = true → x.has id = true) ∧
    ∀ (G : Nat → Option (List PV)) (w0 : Base) (μ : Ro) (φ : Nat → Phys) (w : World) (y : Value) (lo' hi' mx' : Option Value), RelM E.P G w0 μ φ m w → RepV E.P μ φ x y →
      (∀ v, lo = some v → ∃ y, lo' = some y ∧ RepV E.P μ φ v y) → (lo = none → lo' = none) → (∀ v, hi = some v → ∃ y, hi' = some y ∧ RepV E.P μ φ v y) → (hi = none → hi' = none) →
      (∀ v, mx = some v → ∃ y, mx' = some y ∧ RepV E.P μ φ v y) → (mx = none → mx' = none) →
      ∃ z, (Instr.sliceAt t y lo' hi' mx').run E.P w = .ok z w ∧ RepV E.P μ φ v z := by
  unfold xslice at h
  split at h
  · rename_i mv
    split at h
    · rename_i e id hu
      split at h
      · rename_i s et es hm
        split at h
        · rename_i qh hh qc c
          split at h
          · rename_i hb
            refine ⟨_, _, fun m2 hm2 R' k' => by have := hm2 (false, id) (by simp); simp only at this; simp only [xslice, hu, this, hm]; rw [if_pos hb], h, by simp, by simp [V.has], fun G w0 μ φ w y lo' hi' mx' hM hy r1 r2 r3 r4 r5 r6 => ?_⟩
            have hA := hM.arr (.inl hm)
            have hle := hA.lenLe
            obtain ⟨a1, a2, a3, a4, a5, a6, a7⟩ := hA
            obtain ⟨ym, rfl, hym⟩ := r5 _ rfl
            have hlo := r2 rfl
            subst hlo
            cases hym with
            | pv hym => cases hym with
              | int hwc =>
                have hB : ∀ len cap : Nat, len = es.length → c ≤ (cap : Int) → (Instr.sliceBounds true len cap none hi' (some (.int qc c))).run E.P w = .ok (0, hh.toNat, c.toNat) w := by
                  intro len cap hlen hcap
                  have h1 := @run_sliceBound E.P w qc c cap BoundsCode.slice3Acap (by omega) hcap
                  obtain ⟨yh, rfl, hyh⟩ := r3 _ rfl
                  cases hyh with
                  | pv hyh => cases hyh with
                    | int hwh =>
                      have h2 := @run_sliceBound E.P w qh hh c.toNat BoundsCode.slice3B (by omega) (by omega)
                      simp [Instr.sliceBounds, h1, h2]
                have hS : ∀ (a : Option Addr) (len cap : Nat), len = es.length → c ≤ (cap : Int) → (Instr.sliceAt t (.slice a len cap) none hi' (some (.int qc c))).run E.P w = .ok (.slice (if c.toNat = 0 then a else a.map (·.add (0 * csz E.P e))) hh.toNat c.toNat) w := by
                  intro a len cap hlen hcap
                  simp [Instr.sliceAt, Instr.slice, run_underlying hu, hB len cap hlen hcap, run_sizeOf_ne (show csz E.P e ≠ 0 by omega)]
                cases hy with
                | osN hg =>
                  rw [hg] at a7
                  have h0 : es.length = 0 := by rw [a7.1]; rfl
                  refine ⟨_, hS none 0 0 h0.symm (by omega), ?_⟩
                  have e1 : hh.toNat = 0 := by omega
                  have e2 : c.toNat = 0 := by omega
                  rw [e1, e2]
                  exact .osubN hg
                | @os _ g hg =>
                  refine ⟨_, hS _ _ _ a1 (by omega), ?_⟩
                  have : (if c.toNat = 0 then some (⟨g, 0, none⟩ : Addr) else (some ⟨g, 0, none⟩ : Option Addr).map (·.add (0 * csz E.P e))) = some ⟨g, 0 * (φ id).sz, none⟩ := by split <;> simp [Addr.add]
                  rw [this]
                  exact .osub hg (by omega) (.inl rfl) (by omega) (by omega)
          · cases h
        · cases h
      · cases h
    · cases h
  · split at h
    · rename_i s hu
      split at h
      · rename_i l hh hl hhh
        split at h
        · rename_i hb
          refine ⟨_, _, fun m2 _ R' k' => by simp only [xslice, hu, hl, hhh]; rw [if_pos hb], h, by simp, by simp, fun G w0 μ φ w y lo' hi' mx' hM hy r1 r2 r3 r4 _ r6 => ?_⟩
          have hmx := r6 rfl
          subst hmx
          cases hy with
          | pv hy => cases hy with
            | str hlen =>
              have hB := run_sliceBounds (P := E.P) (w := w) (isS := false) (cap := s.length) hl hhh r1 r2 r3 r4 hb.1 hb.2.1 hb.2.2 (Nat.le_refl _)
              refine ⟨_, ?_, .pv (.str (s := (s.take hh.toNat).drop l.toNat) (by simp; omega))⟩
              simp only [Instr.sliceAt, Instr.slice, Sem.run_bind, run_underlying hu, Result.andThen_ok, size_str, hB]
              simp only [Option.isSome_none, Bool.false_eq_true, if_false, Sem.run_bind, Sem.run_pure, Result.andThen_ok, hB]
              rw [str_slice (by omega) (by omega)]
        · cases h
      · cases h
    · rename_i e sz es hu
      split at h
      · rename_i l hh hl hhh
        split at h
        · rename_i hb
          refine ⟨_, _, fun m2 _ R' k' => by simp only [xslice, hu, hl, hhh]; rw [if_pos hb], h, by simp, by simp, fun G w0 μ φ w y lo' hi' mx' hM hy r1 r2 r3 r4 _ r6 => ?_⟩
          have hmx := r6 rfl
          subst hmx
          cases hy with
          | pv hy =>
            obtain ⟨a, cap, rfl, hc, hr⟩ := rs_slice (l := l.toNat) (h := hh.toNat) hy (by omega) (by omega)
            have hB := run_sliceBounds (P := E.P) (w := w) (isS := true) (cap := cap) hl hhh r1 r2 r3 r4 hb.1 hb.2.1 hb.2.2.1 hc
            exact ⟨_, run_slice_sl hu hb.2.2.2.2 hB, by rw [← hb.2.2.2.1]; exact .pv hr⟩
        · cases h
      · cases h
    · rename_i e id hu
      have key : ∀ (s : Nat) (et : TypeId) (es : List PV) (l hh : Int), (m id = some (.arr s et es) ∨ m id = some (.fro s et es)) → boundOf 0 lo = some l → boundOf es.length hi = some hh → (0 ≤ l ∧ l ≤ hh ∧ hh ≤ (es.length : Int) ∧ s = csz E.P e) →
          ∀ (G : Nat → Option (List PV)) (w0 : Base) (μ : Ro) (φ : Nat → Phys) (w : World) (y : Value) (lo' hi' : Option Value), RelM E.P G w0 μ φ m w → RepV E.P μ φ (.os id) y →
            (∀ v, lo = some v → ∃ y, lo' = some y ∧ RepV E.P μ φ v y) → (lo = none → lo' = none) → (∀ v, hi = some v → ∃ y, hi' = some y ∧ RepV E.P μ φ v y) → (hi = none → hi' = none) →
            ∃ z, (Instr.sliceAt t y lo' hi' none).run E.P w = .ok z w ∧ RepV E.P μ φ (.osub id l.toNat (hh.toNat - l.toNat)) z := by
        intro s et es l hh hm hl hhh hb G w0 μ φ w y lo' hi' hM hy r1 r2 r3 r4
        have hA := hM.arr hm
        have hle := hA.lenLe
        obtain ⟨a1, a2, a3, a4, a5, a6, a7⟩ := hA
        cases hy with
        | osN hg =>
          rw [hg] at a7
          have h0 : es.length = 0 := by rw [a7.1]; rfl
          have hB := run_sliceBounds (P := E.P) (w := w) (isS := true) (cap := 0) hl hhh r1 r2 r3 r4 hb.1 hb.2.1 hb.2.2.1 (by omega)
          rw [h0] at hB
          refine ⟨_, run_slice_sl hu (by omega) hB, ?_⟩
          have e1 : l.toNat = 0 := by omega
          have e2 : hh.toNat = 0 := by omega
          rw [e1, e2]
          exact .osubN hg
        | @os _ g hg =>
          have hB := run_sliceBounds (P := E.P) (w := w) (isS := true) (cap := (φ id).cap) hl hhh r1 r2 r3 r4 hb.1 hb.2.1 hb.2.2.1 (by omega)
          rw [← a1] at hB
          refine ⟨_, run_slice_sl hu (by omega) hB, ?_⟩
          by_cases hc : (φ id).cap = l.toNat
          · rw [if_pos hc]
            by_cases h0 : l.toNat = 0
            · rw [h0]
              exact .osub hg (by omega) (.inl (by simp)) (by omega) (by omega)
            · exact .osub hg (by omega) (.inr ⟨hc, by omega⟩) (by omega) (by omega)
          · rw [if_neg hc]
            simp only [Option.map_some, Addr.add_mid, Nat.zero_add]
            refine .osub hg (by omega) (.inl ?_) (by omega) (by omega)
            rw [a2, hb.2.2.2]
      split at h
      · rename_i s et es hm
        split at h
        · rename_i l hh hl hhh
          split at h
          · rename_i hb
            exact ⟨_, _, fun m2 hm2 R' k' => by have := hm2 (false, id) (by simp); simp only at this; simp only [xslice, hu, this, hm, hl, hhh]; rw [if_pos hb], h, by simp, by simp [V.has], fun G w0 μ φ w y lo' hi' mx' hM hy r1 r2 r3 r4 _ r6 => by rw [r6 rfl]; exact key s et es l hh (.inl hm) hl hhh hb G w0 μ φ w y lo' hi' hM hy r1 r2 r3 r4⟩
          · cases h
        · cases h
      · rename_i s et es hm
        split at h
        · rename_i l hh hl hhh
          split at h
          · rename_i hb
            exact ⟨_, _, fun m2 hm2 R' k' => by have := hm2 (false, id) (by simp); simp only at this; simp only [xslice, hu, this, hm, hl, hhh]; rw [if_pos hb], h, by simp, by simp [V.has], fun G w0 μ φ w y lo' hi' mx' hM hy r1 r2 r3 r4 _ r6 => by rw [r6 rfl]; exact key s et es l hh (.inr hm) hl hhh hb G w0 μ φ w y lo' hi' hM hy r1 r2 r3 r4⟩
          · cases h
        · cases h
      · cases h
    · cases h
end
end Go.Ab
