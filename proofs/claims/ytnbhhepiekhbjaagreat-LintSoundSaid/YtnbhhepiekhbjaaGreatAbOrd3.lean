/- Operations in a region whose order is drawn: records of what each operation does, and any order of them. -/
import Derived.Test.YtnbhhepiekhbjaaGreatAbOrd2
set_option linter.unusedVariables false
namespace Go.Ab
open Go.RowKit (Below)
structure Rec where
  i : Nat
  o : Oper
  v : V
  wr : Option (Nat × Blk)
  ft : Foot
  kl : Option Nat
def kf : Option Nat → Fr → Fr
  | none, f => f
  | some id, f => killF id f
def km : Option Nat → Mem → Mem
  | none, m => m
  | some id, m => memDel (killM id m) id
def Rec.fs (r : Rec) (f : Fr) : Fr := frPut (kf r.kl f) r.o.dst r.v
def Rec.ms (r : Rec) (m : Mem) : Mem := appM (km r.kl m) r.wr

def fAll (f : Fr) : List Rec → Fr
  | [] => f
  | r :: l => fAll (r.fs f) l
def mAll (m : Mem) : List Rec → Mem
  | [] => m
  | r :: l => mAll (r.ms m) l
def fSel (S : Nat → Bool) (f : Fr) : List Rec → Fr
  | [] => f
  | r :: l => fSel S (bif S r.i then r.fs f else f) l
def mSel (S : Nat → Bool) (m : Mem) : List Rec → Mem
  | [] => m
  | r :: l => mSel S (bif S r.i then r.ms m else m) l

theorem appM_ne {m : Mem} {wr : Option (Nat × Blk)} {id : Nat} (h : ∀ b, wr ≠ some (id, b)) : appM m wr id = m id := by
  cases wr with
  | none => rfl
  | some x =>
    obtain ⟨j, b⟩ := x
    simp only [appM]
    exact memSet_ne fun e => h b (by rw [e])
theorem appM_eq {m : Mem} {id : Nat} {b : Blk} : appM m (some (id, b)) id = some b := by
  simp [appM, memSet, Nat.beq_refl]


theorem killV_clean {id : Nat} {v : V} (h : v.has id = false) : killV id v = v := by unfold killV; rw [h]; rfl
theorem killL_clean {id : Nat} : ∀ {cs : List V}, hasL id cs = false → cs.map (killV id) = cs
  | [], _ => rfl
  | c :: r, h => by
    simp only [hasL, Bool.or_eq_false_iff] at h
    simp only [List.map_cons, killV_clean h.1, killL_clean h.2]
theorem killB_clean {id : Nat} {b : Blk} (h : b.names id = false) : killB id b = b := by
  cases b with
  | box cs => simp only [killB, killL_clean (show hasL id cs = false from h)]
  | _ => rfl
theorem kf_clean {kl : Option Nat} {f : Fr} {t : Nat} (h : ∀ id, kl = some id → (f t).has id = false) : kf kl f t = f t := by
  cases kl with
  | none => rfl
  | some id => exact killV_clean (h id rfl)
theorem kf_congr {kl : Option Nat} {f g : Fr} {t : Nat} (h : f t = g t) : kf kl f t = kf kl g t := by
  cases kl with
  | none => exact h
  | some id => simp only [kf, killF, h]
theorem km_clean {kl : Option Nat} {m : Mem} {j : Nat} (h : ∀ id, kl = some id → j ≠ id ∧ ∀ b, m j = some b → b.names id = false) : km kl m j = m j := by
  cases kl with
  | none => rfl
  | some id =>
    obtain ⟨h1, h2⟩ := h id rfl
    simp only [km]
    rw [memDel_ne h1]
    unfold killM
    cases hm : m j with
    | none => rfl
    | some b => simp only [killB_clean (h2 b hm)]
theorem km_congr {kl : Option Nat} {m n : Mem} {j : Nat} (h : m j = n j) : km kl m j = km kl n j := by
  cases kl with
  | none => exact h
  | some id =>
    simp only [km]
    by_cases e : j = id
    · subst e; simp [memDel, Nat.beq_refl]
    · rw [memDel_ne e, memDel_ne e]; simp only [killM, h]
theorem Rec.fs_eq {r : Rec} {f : Fr} {t : Nat} (h : r.o.dst = some t) : r.fs f t = r.v := by unfold Rec.fs; rw [h, frPut_eq]
theorem Rec.fs_ne {r : Rec} {f : Fr} {t : Nat} (h : r.o.dst ≠ some t) (hc : ∀ id, r.kl = some id → (f t).has id = false) : r.fs f t = f t := by
  unfold Rec.fs; rw [frPut_ne h]; exact kf_clean hc
theorem Rec.fs_congr {r : Rec} {f g : Fr} {t : Nat} (h : f t = g t) : r.fs f t = r.fs g t := by
  by_cases e : r.o.dst = some t
  · rw [fs_eq e, fs_eq e]
  · unfold Rec.fs; rw [frPut_ne e, frPut_ne e]; exact kf_congr h
theorem Rec.ms_eq {r : Rec} {m : Mem} {j : Nat} {b : Blk} (h : r.wr = some (j, b)) : r.ms m j = some b := by unfold Rec.ms; rw [h, appM_eq]
theorem Rec.ms_ne {r : Rec} {m : Mem} {j : Nat} (h : ∀ b, r.wr ≠ some (j, b)) (hc : ∀ id, r.kl = some id → j ≠ id ∧ ∀ b, m j = some b → b.names id = false) : r.ms m j = m j := by
  unfold Rec.ms; rw [appM_ne h]; exact km_clean hc
theorem Rec.ms_congr {r : Rec} {m n : Mem} {j : Nat} (h : m j = n j) : r.ms m j = r.ms n j := by
  by_cases e : ∃ b, r.wr = some (j, b)
  · obtain ⟨b, e⟩ := e; rw [ms_eq e, ms_eq e]
  · have e' : ∀ b, r.wr ≠ some (j, b) := fun b hb => e ⟨b, hb⟩
    unfold Rec.ms; rw [appM_ne e', appM_ne e']; exact km_congr h

section
variable {S S' : Nat → Bool}

theorem fAll_append {f : Fr} : ∀ {l l' : List Rec} , fAll f (l ++ l') = fAll (fAll f l) l' := by
  intro l
  induction l generalizing f with
  | nil => intro l'; rfl
  | cons r l ih => intro l'; exact ih
theorem mAll_append {m : Mem} : ∀ {l l' : List Rec} , mAll m (l ++ l') = mAll (mAll m l) l' := by
  intro l
  induction l generalizing m with
  | nil => intro l'; rfl
  | cons r l ih => intro l'; exact ih
theorem fSel_append {f : Fr} : ∀ {l l' : List Rec} , fSel S f (l ++ l') = fSel S (fSel S f l) l' := by
  intro l
  induction l generalizing f with
  | nil => intro l'; rfl
  | cons r l ih => intro l'; exact ih
theorem mSel_append {m : Mem} : ∀ {l l' : List Rec} , mSel S m (l ++ l') = mSel S (mSel S m l) l' := by
  intro l
  induction l generalizing m with
  | nil => intro l'; rfl
  | cons r l ih => intro l'; exact ih

theorem fAll_none {t : Nat} : ∀ {l : List Rec} {f : Fr}, (∀ q ∈ l, q.o.dst ≠ some t ∧ q.kl = none) → fAll f l t = f t
  | [], _, _ => rfl
  | r :: l, f, h => by
    rw [fAll, fAll_none fun q hq => h q (by simp [hq])]
    obtain ⟨h1, h2⟩ := h r (by simp)
    exact Rec.fs_ne h1 fun id hid => by rw [h2] at hid; cases hid
theorem fSel_none {t : Nat} : ∀ {l : List Rec} {f : Fr}, (∀ q ∈ l, S q.i = true → q.o.dst ≠ some t ∧ ∀ id, q.kl = some id → (f t).has id = false) → fSel S f l t = f t
  | [], _, _ => rfl
  | r :: l, f, h => by
    have h0 : (bif S r.i then r.fs f else f) t = f t := by
      cases e : S r.i with
      | false => rfl
      | true => obtain ⟨h1, h2⟩ := h r (by simp) e; exact Rec.fs_ne h1 h2
    rw [fSel, fSel_none fun q hq hs => by rw [h0]; exact h q (by simp [hq]) hs, h0]
theorem fSel_all {t : Nat} : ∀ {l : List Rec} {f g : Fr}, f t = g t → (∀ q ∈ l, S q.i = false → q.o.dst ≠ some t ∧ q.kl = none) → fSel S f l t = fAll g l t
  | [], _, _, h, _ => h
  | r :: l, f, g, h, hs => by
    rw [fSel, fAll]
    refine fSel_all ?_ fun q hq => hs q (by simp [hq])
    cases e : S r.i with
    | true => exact Rec.fs_congr h
    | false =>
      obtain ⟨h1, h2⟩ := hs r (by simp) e
      rw [Rec.fs_ne h1 fun id hid => by rw [h2] at hid; cases hid]; exact h
theorem fSel_congr {t : Nat} : ∀ {l : List Rec} {f g : Fr}, f t = g t → (∀ q ∈ l, S q.i = S' q.i) → fSel S f l t = fSel S' g l t
  | [], _, _, h, _ => h
  | r :: l, f, g, h, hs => by
    rw [fSel, fSel]
    refine fSel_congr ?_ fun q hq => hs q (by simp [hq])
    rw [hs r (by simp)]
    cases S' r.i
    · exact h
    · exact Rec.fs_congr h
theorem mSel_none {j : Nat} : ∀ {l : List Rec} {m : Mem}, (∀ q ∈ l, S q.i = true → (∀ b, q.wr ≠ some (j, b)) ∧ ∀ id, q.kl = some id → j ≠ id ∧ ∀ b, m j = some b → b.names id = false) → mSel S m l j = m j
  | [], _, _ => rfl
  | r :: l, m, h => by
    have h0 : (bif S r.i then r.ms m else m) j = m j := by
      cases e : S r.i with
      | false => rfl
      | true => obtain ⟨h1, h2⟩ := h r (by simp) e; exact Rec.ms_ne h1 h2
    rw [mSel, mSel_none fun q hq hs => by rw [h0]; exact h q (by simp [hq]) hs, h0]
theorem mSel_all {j : Nat} : ∀ {l : List Rec} {m n : Mem}, m j = n j → (∀ q ∈ l, S q.i = false → (∀ b, q.wr ≠ some (j, b)) ∧ q.kl = none) → mSel S m l j = mAll n l j
  | [], _, _, h, _ => h
  | r :: l, m, n, h, hs => by
    rw [mSel, mAll]
    refine mSel_all ?_ fun q hq => hs q (by simp [hq])
    cases e : S r.i with
    | true => exact Rec.ms_congr h
    | false =>
      obtain ⟨h1, h2⟩ := hs r (by simp) e
      rw [Rec.ms_ne h1 fun id hid => by rw [h2] at hid; cases hid]; exact h
theorem mSel_congr {j : Nat} : ∀ {l : List Rec} {m n : Mem}, m j = n j → (∀ q ∈ l, S q.i = S' q.i) → mSel S m l j = mSel S' n l j
  | [], _, _, h, _ => h
  | r :: l, m, n, h, hs => by
    rw [mSel, mSel]
    refine mSel_congr ?_ fun q hq => hs q (by simp [hq])
    rw [hs r (by simp)]
    cases S' r.i
    · exact h
    · exact Rec.ms_congr h
end

section
variable {E : Env} {ops : Array Oper} {w0 : Base}
def RecOk (E : Env) (ops : Array Oper) (w0 : Base) (r : Rec) (f : Fr) (m : Mem) : Prop :=
  ∀ (f2 : Fr) (m2 : Mem), (∀ t ∈ r.o.looksAt ops, f2 t = f t) → (∀ x ∈ r.ft, m2 x.2 = m x.2) →
    ∀ (μ : Ro) (φ : Nat → Phys) (a : Act) (w : World) (K : Act → World → Prop) (Q : Exit → Act → World → Prop), Rel E.P E.glob E.fn.ntmps w0 μ φ f2 m2 a w →
      (∀ μ' φ' a' w', Rel E.P E.glob E.fn.ntmps w0 μ' φ' (r.fs f2) (r.ms m2) a' w' → K a' w') →
      if Region.wanted r.o (yielded ops a.tmps) then ∀ rd : Option Nat, r.o.wpIn (FR rd) 0 E.P a w K Q else K (a.put r.o.dst undef) w
def RecsOk (E : Env) (ops : Array Oper) (w0 : Base) : Fr → Mem → List Rec → Prop
  | _, _, [] => True
  | f, m, r :: l => RecOk E ops w0 r f m ∧ (∀ id b, r.wr = some (id, b) → (true, id) ∈ r.ft) ∧ RecsOk E ops w0 (r.fs f) (r.ms m) l

theorem RecsOk.append {f : Fr} {m : Mem} {l l' : List Rec} : RecsOk E ops w0 f m (l ++ l') ↔ RecsOk E ops w0 f m l ∧ RecsOk E ops w0 (fAll f l) (mAll m l) l' := by
  induction l generalizing f m with
  | nil => simp [RecsOk, fAll, mAll]
  | cons r l ih => simp only [List.cons_append, RecsOk, fAll, mAll, ih, and_assoc]
def Clean (ops : Array Oper) (id : Nat) (r : Rec) (f : Fr) (m : Mem) : Prop :=
  (∀ t ∈ r.o.looksAt ops, (f t).has id = false) ∧ r.v.has id = false ∧ (∀ x ∈ r.ft, x.2 ≠ id ∧ ∀ b, m x.2 = some b → b.names id = false) ∧ ∀ j b, r.wr = some (j, b) → j ≠ id ∧ b.names id = false
def CleanOk (ops : Array Oper) : Fr → Mem → List Rec → Prop
  | _, _, [] => True
  | f, m, r :: l => (∀ q ∈ l, ∀ id, q.kl = some id → reach ops 4 q.o r.i = true ∨ Clean ops id r f m) ∧ CleanOk ops (r.fs f) (r.ms m) l
theorem CleanOk.append {f : Fr} {m : Mem} {l l' : List Rec} (h : CleanOk ops f m (l ++ l')) : CleanOk ops (fAll f l) (mAll m l) l' := by
  induction l generalizing f m with
  | nil => exact h
  | cons r l ih => exact ih h.2
def Ord (ops : Array Oper) (q r : Rec) : Prop :=
  reach ops 4 r.o q.i = true ∨ (q.o.apart ops r.o = true ∧ (∀ id b, q.wr = some (id, b) → ∀ x ∈ r.ft, x.2 ≠ id) ∧ ∀ id b, r.wr = some (id, b) → ∀ x ∈ q.ft, x.2 ≠ id)

theorem edgeOn_ok {o : Oper} {j : Nat} (h : edgeOn o j = true) : ∃ e ∈ o.after, Region.binds .any e = true ∧ e.on = j := by
  unfold edgeOn at h
  obtain ⟨e, he, h⟩ := List.any_eq_true.1 h
  have he : e ∈ o.after := Array.mem_toList_iff.1 he
  simp only [Bool.and_eq_true] at h
  exact ⟨e, he, h.1, Nat.eq_of_beq_eq_true h.2⟩

abbrev listed? (l : Array Bool) : Nat → Bool := fun i => l.getD i false

theorem any_order {rd : Option Nat} {recs : List Rec} {f0 : Fr} {m0 : Mem} {Q : Exit → Act → World → Prop}
    (hlt : recs.Pairwise fun q r => q.i < r.i) (hin : ∀ r ∈ recs, ops[r.i]? = some r.o) (hall : ∀ i o, ops[i]? = some o → ∃ r ∈ recs, r.i = i ∧ r.o = o)
    (hord : recs.Pairwise (Ord ops)) (hkl : recs.Pairwise fun q r => q.kl ≠ none → reach ops 4 r.o q.i = true) (hcln : CleanOk ops f0 m0 recs) (hedge : ∀ r ∈ recs, ∀ e ∈ r.o.after, Region.binds .any e = true → e.on < r.i) (hok : RecsOk E ops w0 f0 m0 recs)
    (hQ : ∀ μ φ a w, Rel E.P E.glob E.fn.ntmps w0 μ φ (fAll f0 recs) (mAll m0 recs) a w → Q .normal a w) :
    ∀ (fuel : Nat) (listed : Array Bool), listed.size = ops.size → listed.toList.countP (fun b => !b) ≤ fuel →
      (∀ r ∈ recs, listed? listed r.i = true → ∀ e ∈ r.o.after, Region.binds .any e = true → listed? listed e.on = true) →
      ∀ (μ : Ro) (φ : Nat → Phys) (a : Act) (w : World), Rel E.P E.glob E.fn.ntmps w0 μ φ (fSel (listed? listed) f0 recs) (mSel (listed? listed) m0 recs) a w → wpAnyIn (FR rd) 0 E.P .any ops Q fuel listed a w := by
  -- when all are listed
  have done : ∀ (listed : Array Bool), (∀ r ∈ recs, listed? listed r.i = true) → ∀ (μ : Ro) (φ : Nat → Phys) (a : Act) (w : World), Rel E.P E.glob E.fn.ntmps w0 μ φ (fSel (listed? listed) f0 recs) (mSel (listed? listed) m0 recs) a w → Q .normal a w := by
    intro listed hl μ φ a w hR
    have e1 : fSel (listed? listed) f0 recs = fAll f0 recs := funext fun t => fSel_all rfl fun q hq hf => by rw [hl q hq] at hf; cases hf
    have e2 : mSel (listed? listed) m0 recs = mAll m0 recs := funext fun t => mSel_all rfl fun q hq hf => by rw [hl q hq] at hf; cases hf
    rw [e1, e2] at hR
    exact hQ μ φ a w hR
  have noReady : ∀ (listed : Array Bool), listed.size = ops.size → Region.ready .any ops listed = [] → ∀ (n : Nat) (r : Rec), r ∈ recs → r.i < n → listed? listed r.i = true := by
    intro listed hs hr n
    induction n with
    | zero => intro r _ h; omega
    | succ n ih =>
      intro r hr' hi
      cases hc : listed? listed r.i with
      | true => rfl
      | false =>
        exfalso
        have hlt : r.i < listed.size := by rw [hs]; exact (Array.getElem?_eq_some_iff.1 (hin r hr')).1
        have : r.i ∈ Region.ready .any ops listed := mem_ready.2 ⟨by
          simp only [listed?, Array.getD_eq_getD_getElem?, Array.getElem?_eq_getElem hlt, Option.getD_some] at hc ⊢; exact hc, r.o, hin r hr', fun e he hb => by
          have h1 := hedge r hr' e he hb
          have h2 : e.on < ops.size := by have := (Array.getElem?_eq_some_iff.1 (hin r hr')).1; omega
          obtain ⟨q, hq, hqi, _⟩ := hall e.on ops[e.on] (Array.getElem?_eq_getElem h2)
          have := ih q hq (by omega)
          rwa [hqi] at this⟩
        rw [hr] at this; cases this
  intro fuel
  induction fuel with
  | zero =>
    intro listed hs hc hcl μ φ a w hR
    have hall' : ∀ r ∈ recs, listed? listed r.i = true := fun r hr => by
      have hlt : r.i < listed.size := by rw [hs]; exact (Array.getElem?_eq_some_iff.1 (hin r hr)).1
      have := List.countP_eq_zero.1 (Nat.le_zero.1 hc) listed[r.i] (by simp)
      simp only [listed?, Array.getD_eq_getD_getElem?, Array.getElem?_eq_getElem hlt, Option.getD_some]
      simpa using this
    refine ⟨?_, done listed hall' μ φ a w hR⟩
    apply List.eq_nil_iff_forall_not_mem.2
    intro j hj
    obtain ⟨h0, o, ho, _⟩ := mem_ready.1 hj
    obtain ⟨r, hr, rfl, _⟩ := hall j o ho
    have h1 := hall' r hr
    have hlt : r.i < listed.size := by rw [hs]; exact (Array.getElem?_eq_some_iff.1 ho).1
    simp only [listed?, Array.getD_eq_getD_getElem?, Array.getElem?_eq_getElem hlt, Option.getD_some] at h0 h1
    rw [h0] at h1; cases h1
  | succ fuel ih =>
    intro listed hs hc hcl μ φ a w hR
    refine ⟨fun h0 => done listed (fun r hr => noReady listed hs h0 (r.i + 1) r hr (by omega)) μ φ a w hR, fun i hi => ?_⟩
    obtain ⟨hun, o, ho, hedges⟩ := mem_ready.1 hi
    obtain ⟨r, hr, rfl, rfl⟩ := hall i o ho
    have hilt : r.i < listed.size := by rw [hs]; exact (Array.getElem?_eq_some_iff.1 ho).1
    have hSi : listed? listed r.i = false := by
      simp only [listed?, Array.getD_eq_getD_getElem?, Array.getElem?_eq_getElem hilt, Option.getD_some] at hun ⊢; exact hun
    obtain ⟨pre, post, hsplit⟩ := List.append_of_mem hr
    subst hsplit
    have hpre : ∀ q ∈ pre, Ord ops q r := fun q hq => (List.pairwise_append.1 hord).2.2 q hq r (by simp)
    have hpost : ∀ q ∈ post, Ord ops r q := fun q hq => (List.pairwise_cons.1 (List.pairwise_append.1 hord).2.1).1 q hq
    have hipost : ∀ q ∈ post, q.i ≠ r.i := fun q hq => by have := (List.pairwise_cons.1 (List.pairwise_append.1 hlt).2.1).1 q hq; omega
    have hipre : ∀ q ∈ pre, q.i ≠ r.i := fun q hq => by have := (List.pairwise_append.1 hlt).2.2 q hq r (by simp); omega
    -- an edge from r: listed; an edge on r: not listed
    have hway : ∀ (n : Nat) (o : Oper) (j : Nat), (∀ e ∈ o.after, Region.binds .any e = true → listed? listed e.on = true) → reach ops n o j = true → listed? listed j = true := by
      have hdir : ∀ (o : Oper) (j : Nat), (∀ e ∈ o.after, Region.binds .any e = true → listed? listed e.on = true) → edgeOn o j = true → listed? listed j = true := fun o j ho h => by
        obtain ⟨e, he, hb, hon⟩ := edgeOn_ok h
        have := ho e he hb
        rw [hon] at this; exact this
      intro n
      induction n with
      | zero => exact fun o j ho h => hdir o j ho h
      | succ n ihn =>
        intro o j ho h
        simp only [reach, Bool.or_eq_true] at h
        rcases h with h | h
        · exact hdir o j ho h
        · obtain ⟨e, he, h⟩ := List.any_eq_true.1 h
          simp only [Bool.and_eq_true] at h
          obtain ⟨hb, h⟩ := h
          have he : e ∈ o.after := Array.mem_toList_iff.1 he
          split at h
          · rename_i p hp
            obtain ⟨q, hq, hqi, hqo⟩ := hall e.on p hp
            have hle := ho e he hb
            rw [← hqi] at hle
            exact ihn p j (fun e' he' hb' => hcl q hq hle e' (by rw [hqo]; exact he') hb') h
          · cases h
    have hin1 : ∀ q : Rec, reach ops 4 r.o q.i = true → listed? listed q.i = true := fun q h => hway 4 r.o q.i hedges h
    have hout : ∀ q ∈ post, reach ops 4 q.o r.i = true → listed? listed q.i = false := fun q hq h => by
      cases hc' : listed? listed q.i with
      | false => rfl
      | true =>
        have := hway 4 q.o r.i (hcl q (by simp [hq]) hc') h
        rw [hSi] at this; cases this
    have hskip : ∀ (f : Fr), fSel (listed? listed) f (r :: post) = fSel (listed? listed) f post := fun f => by rw [fSel, hSi]; rfl
    have hskipm : ∀ (m : Mem), mSel (listed? listed) m (r :: post) = mSel (listed? listed) m post := fun m => by rw [mSel, hSi]; rfl
    obtain ⟨_, hrok, hrw, _⟩ := RecsOk.append.1 hok
    have hc := hcln.append.1
    have hkpre : ∀ q ∈ pre, q.kl ≠ none → reach ops 4 r.o q.i = true := fun q hq => (List.pairwise_append.1 hkl).2.2 q hq r (by simp)
    have hkpost : r.kl ≠ none → ∀ q ∈ post, reach ops 4 q.o r.i = true := fun h q hq => (List.pairwise_cons.1 (List.pairwise_append.1 hkl).2.1).1 q hq h
    unfold wpOpIn
    rw [hin r hr]
    simp only
    have hf1 : ∀ t ∈ r.o.looksAt ops, fSel (listed? listed) f0 pre t = fAll f0 pre t := fun t ht => fSel_all rfl fun q hq hs => by
      have hnr : ¬ reach ops 4 r.o q.i = true := fun h => by rw [hin1 q h] at hs; cases hs
      refine ⟨fun hd => ?_, ?_⟩
      · rcases hpre q hq with h | ⟨h, _⟩
        · exact hnr h
        · exact absurd ht ((Oper.apart_spec h).1 t hd)
      · exact Classical.byContradiction fun hne => hnr (hkpre q hq hne)
    have hm1 : ∀ x ∈ r.ft, mSel (listed? listed) m0 pre x.2 = mAll m0 pre x.2 := fun x hx => mSel_all rfl fun q hq hs => by
      have hnr : ¬ reach ops 4 r.o q.i = true := fun h => by rw [hin1 q h] at hs; cases hs
      refine ⟨fun b hb => ?_, ?_⟩
      · rcases hpre q hq with h | ⟨_, h, _⟩
        · exact hnr h
        · exact absurd rfl (h _ b hb x hx)
      · exact Classical.byContradiction fun hne => hnr (hkpre q hq hne)
    have hnp : ∀ q ∈ post, listed? listed q.i = true → ¬ reach ops 4 q.o r.i = true := fun q hq hs h => by rw [hout q hq h] at hs; cases hs
    have hf2 : ∀ t ∈ r.o.looksAt ops, fSel (listed? listed) f0 (pre ++ r :: post) t = fAll f0 pre t := fun t ht => by
      rw [fSel_append, hskip, fSel_none fun q hq hs => ⟨fun hd => ?_, fun id hid => ?_⟩]
      · exact hf1 t ht
      · rcases hpost q hq with h | ⟨h, _⟩
        · exact hnp q hq hs h
        · exact absurd ht ((Oper.apart_spec h).2.2 t hd)
      · rw [hf1 t ht]
        rcases hc q hq id hid with h | h
        · exact absurd h (hnp q hq hs)
        · exact h.1 t ht
    have hm2 : ∀ x ∈ r.ft, mSel (listed? listed) m0 (pre ++ r :: post) x.2 = mAll m0 pre x.2 := fun x hx => by
      rw [mSel_append, hskipm, mSel_none fun q hq hs => ⟨fun b hb => ?_, fun id hid => ?_⟩]
      · exact hm1 x hx
      · rcases hpost q hq with h | ⟨_, _, h⟩
        · exact hnp q hq hs h
        · exact absurd rfl (h _ b hb x hx)
      · rw [hm1 x hx]
        rcases hc q hq id hid with h | h
        · exact absurd h (hnp q hq hs)
        · exact h.2.2.1 x hx
    have hwp := hrok _ _ hf2 hm2 μ φ a w (wpAnyIn (FR rd) 0 E.P .any ops Q fuel (listed.setIfInBounds r.i true)) Q hR fun μ' φ' a' w' hR' => by
      have hS' : ∀ j, listed? (listed.setIfInBounds r.i true) j = if j = r.i then true else listed? listed j := fun j => by
        simp only [listed?, Array.getD_eq_getD_getElem?, Array.getElem?_setIfInBounds]
        by_cases e : r.i = j
        · subst e; simp [hilt]
        · have e' : ¬ j = r.i := fun h => e h.symm
          simp [e, e']
      refine ih (listed.setIfInBounds r.i true) (by simp [hs]) ?_ ?_ μ' φ' a' w' ?_
      · rw [Array.toList_setIfInBounds, List.countP_set (by simpa using hilt)]
        have : listed.toList[r.i]'(by simpa using hilt) = false := by
          simp only [listed?, Array.getD_eq_getD_getElem?, Array.getElem?_eq_getElem hilt, Option.getD_some] at hSi; simpa using hSi
        rw [this]
        simp only [Bool.not_false, if_true, Bool.not_true, Bool.false_eq_true, if_false]
        omega
      · intro q hq hq1 e he hb
        rw [hS'] at hq1 ⊢
        split
        · rfl
        · split at hq1
          · rename_i hqi
            have : q = r := by
              rcases List.mem_append.1 hq with h | h
              · exact absurd hqi (hipre q h)
              · rcases List.mem_cons.1 h with h | h
                · exact h
                · exact absurd hqi (hipost q h)
            subst this
            exact hedges e he hb
          · exact hcl q hq hq1 e he hb
      · have hSpre : ∀ q ∈ pre, listed? (listed.setIfInBounds r.i true) q.i = listed? listed q.i := fun q hq => by rw [hS', if_neg (hipre q hq)]
        have hSpost : ∀ q ∈ post, listed? (listed.setIfInBounds r.i true) q.i = listed? listed q.i := fun q hq => by rw [hS', if_neg (hipost q hq)]
        have hSr : listed? (listed.setIfInBounds r.i true) r.i = true := by rw [hS', if_pos rfl]
        have e1 : fSel (listed? (listed.setIfInBounds r.i true)) f0 (pre ++ r :: post) = r.fs (fSel (listed? listed) f0 (pre ++ r :: post)) := funext fun t => by
          have hg : fSel (listed? (listed.setIfInBounds r.i true)) f0 pre = fSel (listed? listed) f0 pre := funext fun s => fSel_congr rfl hSpre
          rw [fSel_append, fSel_append, hskip, fSel, hSr, hg]
          simp only [cond]
          by_cases hk : r.kl = none
          · by_cases hd : r.o.dst = some t
            · rw [Rec.fs_eq hd, fSel_none fun q hq hs => ⟨fun hqd => ?_, fun id hid => ?_⟩, Rec.fs_eq hd]
              · rw [hSpost q hq] at hs
                rcases hpost q hq with h | ⟨h, _⟩
                · exact hnp q hq hs h
                · exact absurd hqd ((Oper.apart_spec h).2.1 t hd)
              · rw [hSpost q hq] at hs
                rw [Rec.fs_eq hd]
                rcases hc q hq id hid with h | h
                · exact absurd h (hnp q hq hs)
                · exact h.2.1
            · have hno : ∀ (g : Fr), r.fs g t = g t := fun g => Rec.fs_ne hd fun id hid => by rw [hk] at hid; cases hid
              rw [hno]
              exact fSel_congr (hno _) hSpost
          · have hun : ∀ q ∈ post, listed? listed q.i = false := fun q hq => hout q hq (hkpost hk q hq)
            rw [fSel_none fun q hq hs => by rw [hSpost q hq, hun q hq] at hs; cases hs]
            exact Rec.fs_congr (fSel_none fun q hq hs => by rw [hun q hq] at hs; cases hs).symm
        have e2 : mSel (listed? (listed.setIfInBounds r.i true)) m0 (pre ++ r :: post) = r.ms (mSel (listed? listed) m0 (pre ++ r :: post)) := funext fun j => by
          have hg : mSel (listed? (listed.setIfInBounds r.i true)) m0 pre = mSel (listed? listed) m0 pre := funext fun s => mSel_congr rfl hSpre
          rw [mSel_append, mSel_append, hskipm, mSel, hSr, hg]
          simp only [cond]
          by_cases hk : r.kl = none
          · by_cases hd : ∃ b, r.wr = some (j, b)
            · obtain ⟨b, hd⟩ := hd
              rw [Rec.ms_eq hd, mSel_none fun q hq hs => ⟨fun b' hqd => ?_, fun id hid => ?_⟩, Rec.ms_eq hd]
              · rw [hSpost q hq] at hs
                rcases hpost q hq with h | ⟨_, _, h⟩
                · exact hnp q hq hs h
                · exact absurd rfl (h j b' hqd (true, j) (hrw j b hd))
              · rw [hSpost q hq] at hs
                rcases hc q hq id hid with h | h
                · exact absurd h (hnp q hq hs)
                · obtain ⟨h1, h2⟩ := h.2.2.2 j b hd
                  refine ⟨h1, fun b' hb' => ?_⟩
                  rw [Rec.ms_eq hd] at hb'
                  cases hb'; exact h2
            · have hd' : ∀ b, r.wr ≠ some (j, b) := fun b hb => hd ⟨b, hb⟩
              have hno : ∀ (g : Mem), r.ms g j = g j := fun g => Rec.ms_ne hd' fun id hid => by rw [hk] at hid; cases hid
              rw [hno]
              exact mSel_congr (hno _) hSpost
          · have hun : ∀ q ∈ post, listed? listed q.i = false := fun q hq => hout q hq (hkpost hk q hq)
            rw [mSel_none fun q hq hs => by rw [hSpost q hq, hun q hq] at hs; cases hs]
            exact Rec.ms_congr (mSel_none fun q hq hs => by rw [hun q hq] at hs; cases hs).symm
        rw [e1, e2]; exact hR'
    split
    · rename_i hw
      rw [if_pos hw] at hwp
      exact hwp rd
    · rename_i hw
      rw [if_neg hw] at hwp
      exact ⟨fun _ _ => trivial, hwp⟩
end
end Go.Ab
