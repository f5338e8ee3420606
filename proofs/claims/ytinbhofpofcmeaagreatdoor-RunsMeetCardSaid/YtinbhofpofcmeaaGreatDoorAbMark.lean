/- A function that held a loop over a function leaves: its marks are taken up; what it calls. -/
import Derived.Test.YtinbhofpofcmeaaGreatDoorAbCode
set_option linter.unusedVariables false
namespace Go.Ab
open Go.RowKit (Below)

def Obj.isData : Obj → Bool
  | .cells .. => true
  | .map .. => true
  | _ => false
def RoC (μ μ' : Ro) : Prop := ∀ b o, μ b = some o → Obj.isData o = true → μ' b = some o
theorem RoC.trans {a b c : Ro} (h : RoC a b) (k : RoC b c) : RoC a c := fun x o hx ho => k x o (h x o hx ho) ho

section
variable {P : Program} {G : Nat → Option (List PV)} {w0 : Base} {μ μ' : Ro} {φ : Nat → Phys} {m : Mem} {w w' : World}

theorem cellAt_off (h : RoC μ μ') {b o : Nat} {x : Value} (hx : cellAt μ b o = some x) : cellAt μ' b o = some x := by
  unfold cellAt at *
  split at hx
  · rename_i c t fz hb
    rw [h _ _ hb rfl]; exact hx
  · cases hx
theorem RepPV.off (h : RoC μ μ') {p : PV} {x : Value} (hp : RepPV P μ p x) : RepPV P μ' p x := by
  induction hp with
  | int h => exact .int h
  | bool => exact .bool
  | str h => exact .str h
  | agg h1 _ h3 ih => exact .agg h1 ih h3
  | tup h1 _ ih => exact .tup h1 ih
  | nilp => exact .nilp
  | rp X h1 _ h3 ih => exact .rp X (fun i p hi => cellAt_off h (h1 i p hi)) ih h3
  | rsNil => exact .rsNil
  | rsE h => exact .rsE h
  | rs X h1 h2 h3 h4 _ h6 ih => exact .rs X h1 h2 h3 (fun i e j p hi hj => cellAt_off h (h4 i e j p hi hj)) ih h6
  | nilm => exact .nilm
  | rm h1 h2 h3 h4 h5 _ _ ih1 ih2 => exact .rm (h _ _ h1 rfl) h2 h3 h4 h5 ih1 ih2
  | nilf => exact .nilf
  | fn h1 _ ih => exact .fn h1 ih
  | ifcN => exact .ifcN
  | ifcS => exact .ifcS
  | bad => exact .bad
theorem VarIs.off (h : RoC μ μ') {g : Nat} {cs : List PV} (hv : VarIs P μ g cs) : VarIs P μ' g cs :=
  ⟨hv.rep.off h, let ⟨c, T, z, h1, h2⟩ := hv.size; ⟨c, T, z, h _ _ h1 rfl, h2⟩⟩
theorem RepV.off (h : RoC μ μ') {v : V} {x : Value} (hv : RepV P μ φ v x) : RepV P μ' φ v x := by
  induction hv with
  | pv hp => exact .pv (hp.off h)
  | nils => exact .nils
  | op hg => exact .op hg
  | oe hg => exact .oe hg
  | osN hg => exact .osN hg
  | os hg => exact .os hg
  | osubN hg => exact .osubN hg
  | osub hg hl ha => exact .osub hg hl ha
  | om hg => exact .om hg
  | yl hg => exact .yl hg
  | fn h1 _ ih => exact .fn h1 ih
  | agg h1 _ h3 ih => exact .agg h1 ih h3
  | tup h1 _ ih => exact .tup h1 ih
  | top => exact .top
theorem RepArr.off (h : RoC μ μ') {id sz : Nat} {et : TypeId} {es : List PV} (ha : RepArr P μ φ w id sz et es) (hw : ∀ g, (φ id).g = some g → w'.heap[g]? = w.heap[g]?) : RepArr P μ' φ w' id sz et es := by
  obtain ⟨a1, a2, a3, a4, a5, a6, a7⟩ := ha
  refine ⟨a1, a2, a3, a4, a5, a6, ?_⟩
  cases hg : (φ id).g with
  | none => rw [hg] at a7; exact a7
  | some g =>
    rw [hg] at a7
    obtain ⟨c, c1, c2, c3, c4, c5⟩ := a7
    exact ⟨c, by rw [hw g hg]; exact c1, c2, c3, fun i e j p x h1 h2 h3 => (c4 i e j p x h1 h2 h3).off h, c5⟩
theorem RepB.off (h : RoC μ μ') (hro : ∀ b o, μ b = some o → w.heap[b]? = some o) {id : Nat} {b : Blk} (hb : RepB P μ φ w id b) (hw : ∀ g, (φ id).g = some g → w'.heap[g]? = w.heap[g]?) : RepB P μ' φ w' id b := by
  cases b with
  | box cs =>
    obtain ⟨g, c, T, hg, hh, hs, hv, h1, hln⟩ := hb
    exact ⟨g, c, T, hg, by rw [hw g hg]; exact hh, hs, fun i v x hi hx => (hv i v x hi hx).off h, h1, hln⟩
  | arr sz et es => exact RepArr.off h hb hw
  | fro sz et es =>
    refine ⟨RepArr.off h hb.1 hw, fun g hg => ?_⟩
    obtain ⟨o, ho⟩ := Option.isSome_iff_exists.1 (hb.2 g hg)
    obtain ⟨_, _, _, _, _, _, a7⟩ := hb.1
    rw [hg] at a7
    obtain ⟨c, c1, _⟩ := a7
    have := hro g o ho
    rw [c1] at this
    cases this
    rw [h _ _ ho rfl]; rfl
  | map kt es =>
    obtain ⟨g, en, clock, kk, hg, hh, hs, hk, hc, hv⟩ := hb
    exact ⟨g, en, clock, kk, hg, by rw [hw g hg]; exact hh, hs, hk, hc, fun i k v e h1 h2 => ⟨(hv i k v e h1 h2).1.off h, (hv i k v e h1 h2).2.off h⟩⟩
  | loop st =>
    obtain ⟨g, rc, hg, hh⟩ := hb
    exact ⟨g, rc, hg, by rw [hw g hg]; exact hh⟩

def roOff (μ : Ro) (D : Nat) : Ro := fun b => if b = D then none else μ b
theorem roOff_c {D : Nat} (hD : μ D = some (.deferred (some []))) : RoC μ (roOff μ D) := by
  intro b o hb ho
  unfold roOff
  rw [if_neg fun e => by subst e; rw [hD] at hb; cases hb; cases ho]
  exact hb
theorem RelM.shut (hM : RelM P G w0 μ φ m w) {D : Nat} (hB : w0.heap.size ≤ D) (hk : w0.keep D = none) (hD : μ D = some (.deferred (some []))) : RelM P G w0 (roOff μ D) φ m (w.putObj D (.deferred none)) := by
  have hc := roOff_c hD
  have hh := hM.ro _ _ hD
  have hoth : ∀ k, k ≠ D → (w.putObj D (.deferred none)).heap[k]? = w.heap[k]? := fun k hk => World.putObj_heap_other hk
  have hne : ∀ id b g, m id = some b → (φ id).g = some g → g ≠ D := fun id b g hm hg e => by
    subst e
    have hR := hM.blk id b hm
    cases b with
    | box cs => obtain ⟨g', c, T, hg', h2, _⟩ := hR; rw [hg] at hg'; cases hg'; rw [hh] at h2; cases h2
    | arr sz et es => obtain ⟨_, _, _, _, _, _, a7⟩ := hR; rw [hg] at a7; obtain ⟨c, c1, _⟩ := a7; rw [hh] at c1; cases c1
    | fro sz et es => obtain ⟨⟨_, _, _, _, _, _, a7⟩, _⟩ := hR; rw [hg] at a7; obtain ⟨c, c1, _⟩ := a7; rw [hh] at c1; cases c1
    | map kt es => obtain ⟨g', en, clock, kk, hg', h2, _⟩ := hR; rw [hg] at hg'; cases hg'; rw [hh] at h2; cases h2
    | loop st => obtain ⟨g', rc, hg', h2⟩ := hR; rw [hg] at hg'; cases hg'; rw [hh] at h2; cases h2
  refine ⟨hM.below.trans ((Bel.putObj w D _).mono hB), fun b o hb => ?_, fun g cs hg => (hM.glob g cs hg).off hc, fun id b hm => (hM.blk id b hm).off hc hM.ro fun g hg => hoth g (hne id b g hm hg), fun id b g hm hg => ?_, hM.inj, hM.liveB, fun b o hb hlt => ?_, fun b o hb => ?_, fun id st hm => ?_⟩
  · unfold roOff at hb
    split at hb
    · cases hb
    · rename_i e; rw [hoth b e]; exact hM.ro b o hb
  · obtain ⟨h1, h2⟩ := hM.own id b g hm hg
    refine ⟨h1, fun hmut => ?_⟩
    unfold roOff
    rw [if_neg (hne id b g hm hg)]; exact h2 hmut
  · unfold roOff at hb
    split at hb
    · cases hb
    · exact hM.base b o hb hlt
  · unfold roOff
    rw [if_neg fun e => by subst e; rw [hk] at hb; cases hb]
    exact hM.keep b o hb
  · obtain ⟨g, rc, h1, h2, h3⟩ := hM.lps id st hm
    exact ⟨g, rc, h1, h2, by rw [hoth g (hne id _ g hm h1)]; exact h3⟩
end

section
variable {E : Env} {w0 : Base}
theorem leaves_marks {R : Ending → World → Prop} {f : Fr} {m : Mem} {φ : Nat → Phys} {fn : Func} {tmps : Array Value} : ∀ (Ds : List Nat) {μ : Ro} {w : World}, Ds.Nodup → (∀ D ∈ Ds, w0.heap.size ≤ D ∧ w0.keep D = none ∧ μ D = some (.deferred (some []))) →
    Rel E.P E.glob E.fn.ntmps w0 μ φ f m { tmps, defers := [] } w →
    (∀ μ' w', Rel E.P E.glob E.fn.ntmps w0 μ' φ f m { tmps, defers := [] } w' → ∃ v, (results fn tmps).run E.P w' = .ok v w' ∧ R (.returned v) w') →
    LeavesInM (FR none) 0 E.P fn tmps R (Ds.map fun D => { target := .collected D, args := #[] }) .returning w
  | [], μ, w, _, _, hR, hfin => hfin μ w hR
  | D :: Ds, μ, w, hn, hD, hR, hfin => by
    obtain ⟨h1, h2, h3⟩ := hD D (by simp)
    obtain ⟨n1, n2⟩ := List.nodup_cons.1 hn
    have hM := hR.toRelM.shut h1 h2 h3
    refine ⟨by simp, .inl ⟨D, _, rfl, run_takeDeferred (hR.ro _ _ h3), ?_⟩⟩
    refine leaves_marks Ds n2 (fun D' hd' => ?_) { toRelM := hM, size := hR.size, defers := .nil _ _ _, old := hR.old, fr := fun t => (hR.fr t).off (roOff_c h3), live := hR.live } hfin
    obtain ⟨a1, a2, a3⟩ := hD D' (by simp [hd'])
    refine ⟨a1, a2, ?_⟩
    unfold roOff
    rw [if_neg fun e => by subst e; exact n1 hd']; exact a3
theorem calls_of_code (hE : EnvOk E) (hY : YlOk E.P E.glob E.fn.ntmps E.yl w0) (hko : ∀ b o, w0.keep b = some o → w0.old b = some o) {g : FuncId} {c : Code} (hf : E.P.funcs[g]? = some E.fn) (hb : E.fn.body = some c) {xs : Array Value} {R : Ending → World → Prop} {S : Type} {f : Fr} {m : Mem} {k : Ex → Fr → Mem → Option S} {r : S}
    (h : evalC E c f m k = some r) {μ : Ro} {φ : Nat → Phys} {w : World} (hR : Rel E.P E.glob E.fn.ntmps w0 μ φ f m { tmps := xs ++ Array.replicate (E.fn.ntmps - xs.size) undef, defers := [] } w)
    (hfin : ∀ e f' m' μ' φ' tmps w', k e f' m' = some r → Rel E.P E.glob E.fn.ntmps w0 μ' φ' f' m' { tmps, defers := [] } w' → (∀ id, e ≠ .exit id) ∧ ∃ v, (results E.fn tmps).run E.P w' = .ok v w' ∧ R (.returned v) w') :
    Calls E.P g xs w R := by
  refine (callsIn_wide (n := 0)).1 (callsIn_of_wp_marks (F := FR none) hf hb trivial ?_)
  refine evalC_ok c hE hY (fun _ => rfl) h hR fun e f' m' μ' φ' a' w' hk hR' => ?_
  obtain ⟨Ds, e1, e2, e3⟩ := hR'.defers
  have hR2 : Rel E.P E.glob E.fn.ntmps w0 μ' φ' f' m' { tmps := a'.tmps, defers := [] } w' :=
    { toRelM := hR'.toRelM, size := hR'.size, defers := .nil _ _ _, old := hR'.old, fr := hR'.fr, live := hR'.live }
  have key : (∀ id, e ≠ .exit id) → LeavesInM (FR none) 0 E.P E.fn a'.tmps R a'.defers .returning w' := fun _ => by
    rw [e1]
    refine leaves_marks Ds e2 (fun D hd => ?_) hR2 fun μ2 w2 hR3 => (hfin e f' m' μ2 φ' a'.tmps w2 hk hR3).2
    obtain ⟨a1, a2, a3⟩ := e3 D hd
    refine ⟨a1, ?_, a3⟩
    cases hq : w0.keep D with
    | none => rfl
    | some o => rw [hko D o hq] at a2; cases a2
  have hne := (hfin e f' m' μ' φ' a'.tmps w' hk hR2).1
  cases e with
  | normal => exact key hne
  | ret => exact key hne
  | exit id => exact absurd rfl (hne id)
end
end Go.Ab
