/- Operations in a region whose order is drawn: records of what each operation does, and any order of them. -/
import Derived.Test.YtlgcompmkliiaaaAbOrd2
namespace Go.Ab
open Go.RowKit (Below)

/-- what one operation does -/
structure Rec where
  i : Nat
  o : Oper
  v : V
  wr : Option (Nat × Blk)
  ft : Foot

def fAll (f : Fr) : List Rec → Fr
  | [] => f
  | r :: l => fAll (frPut f r.o.dst r.v) l
def mAll (m : Mem) : List Rec → Mem
  | [] => m
  | r :: l => mAll (appM m r.wr) l
def fSel (S : Nat → Bool) (f : Fr) : List Rec → Fr
  | [] => f
  | r :: l => fSel S (bif S r.i then frPut f r.o.dst r.v else f) l
def mSel (S : Nat → Bool) (m : Mem) : List Rec → Mem
  | [] => m
  | r :: l => mSel S (bif S r.i then appM m r.wr else m) l

theorem appM_ne {m : Mem} {wr : Option (Nat × Blk)} {id : Nat} (h : ∀ b, wr ≠ some (id, b)) : appM m wr id = m id := by
  cases wr with
  | none => rfl
  | some x =>
    obtain ⟨j, b⟩ := x
    simp only [appM]
    exact memSet_ne fun e => h b (by rw [e])
theorem appM_eq {m : Mem} {id : Nat} {b : Blk} : appM m (some (id, b)) id = some b := by
  simp [appM, memSet, Nat.beq_refl]

section
variable {S S' : Nat → Bool}

theorem fAll_append {f : Fr} : ∀ {l l' : List Rec} , fAll f (l ++ l') = fAll (fAll f l) l' := by
  intro l
  induction l generalizing f with
  | nil => intro l'; rfl
  | cons r l ih => intro l'; exact ih
theorem mAll_append {m : Mem} : ∀ {l l' : List Rec} , mAll m (l ++ l') = mAll (mAll m l) l' := by
  intro l
  induction l generalizing m with
  | nil => intro l'; rfl
  | cons r l ih => intro l'; exact ih
theorem fSel_append {f : Fr} : ∀ {l l' : List Rec} , fSel S f (l ++ l') = fSel S (fSel S f l) l' := by
  intro l
  induction l generalizing f with
  | nil => intro l'; rfl
  | cons r l ih => intro l'; exact ih
theorem mSel_append {m : Mem} : ∀ {l l' : List Rec} , mSel S m (l ++ l') = mSel S (mSel S m l) l' := by
  intro l
  induction l generalizing m with
  | nil => intro l'; rfl
  | cons r l ih => intro l'; exact ih

theorem fAll_none {t : Nat} : ∀ {l : List Rec} {f : Fr}, (∀ q ∈ l, q.o.dst ≠ some t) → fAll f l t = f t
  | [], _, _ => rfl
  | r :: l, f, h => by rw [fAll, fAll_none fun q hq => h q (by simp [hq]), frPut_ne (h r (by simp))]
theorem fSel_none {t : Nat} : ∀ {l : List Rec} {f : Fr}, (∀ q ∈ l, q.o.dst = some t → S q.i = false) → fSel S f l t = f t
  | [], _, _ => rfl
  | r :: l, f, h => by
    rw [fSel, fSel_none fun q hq => h q (by simp [hq])]
    by_cases e : r.o.dst = some t
    · rw [h r (by simp) e]; rfl
    · cases S r.i
      · rfl
      · exact frPut_ne e
theorem fSel_all {t : Nat} : ∀ {l : List Rec} {f g : Fr}, f t = g t → (∀ q ∈ l, q.o.dst = some t → S q.i = true) → fSel S f l t = fAll g l t
  | [], _, _, h, _ => h
  | r :: l, f, g, h, hs => by
    rw [fSel, fAll]
    refine fSel_all ?_ fun q hq => hs q (by simp [hq])
    by_cases e : r.o.dst = some t
    · rw [hs r (by simp) e, e, frPut_eq]; simp [frPut_eq]
    · rw [frPut_ne e]
      cases S r.i
      · exact h
      · simp only [cond]; rw [frPut_ne e]; exact h
theorem fSel_congr {t : Nat} : ∀ {l : List Rec} {f g : Fr}, f t = g t → (∀ q ∈ l, S q.i = S' q.i) → fSel S f l t = fSel S' g l t
  | [], _, _, h, _ => h
  | r :: l, f, g, h, hs => by
    rw [fSel, fSel]
    refine fSel_congr ?_ fun q hq => hs q (by simp [hq])
    rw [hs r (by simp)]
    cases S' r.i
    · exact h
    · simp only [cond]
      by_cases e : r.o.dst = some t
      · rw [e, frPut_eq, frPut_eq]
      · rw [frPut_ne e, frPut_ne e]; exact h
theorem mSel_none {id : Nat} : ∀ {l : List Rec} {m : Mem}, (∀ q ∈ l, ∀ b, q.wr = some (id, b) → S q.i = false) → mSel S m l id = m id
  | [], _, _ => rfl
  | r :: l, m, h => by
    rw [mSel, mSel_none fun q hq => h q (by simp [hq])]
    cases e : S r.i
    · rfl
    · exact appM_ne fun b hb => by rw [h r (by simp) b hb] at e; cases e
theorem mSel_all {id : Nat} : ∀ {l : List Rec} {m n : Mem}, m id = n id → (∀ q ∈ l, ∀ b, q.wr = some (id, b) → S q.i = true) → mSel S m l id = mAll n l id
  | [], _, _, h, _ => h
  | r :: l, m, n, h, hs => by
    rw [mSel, mAll]
    refine mSel_all ?_ fun q hq => hs q (by simp [hq])
    by_cases e : ∃ b, r.wr = some (id, b)
    · obtain ⟨b, e⟩ := e
      rw [hs r (by simp) b e, e, appM_eq]; simp [appM_eq]
    · have e' : ∀ b, r.wr ≠ some (id, b) := fun b hb => e ⟨b, hb⟩
      rw [appM_ne e']
      cases S r.i
      · exact h
      · simp only [cond]; rw [appM_ne e']; exact h
theorem mSel_congr {id : Nat} : ∀ {l : List Rec} {m n : Mem}, m id = n id → (∀ q ∈ l, S q.i = S' q.i) → mSel S m l id = mSel S' n l id
  | [], _, _, h, _ => h
  | r :: l, m, n, h, hs => by
    rw [mSel, mSel]
    refine mSel_congr ?_ fun q hq => hs q (by simp [hq])
    rw [hs r (by simp)]
    cases S' r.i
    · exact h
    · simp only [cond]
      by_cases e : ∃ b, r.wr = some (id, b)
      · obtain ⟨b, e⟩ := e
        rw [e, appM_eq, appM_eq]
      · have e' : ∀ b, r.wr ≠ some (id, b) := fun b hb => e ⟨b, hb⟩
        rw [appM_ne e', appM_ne e']; exact h
end

section
variable {E : Env} {ops : Array Oper} {w0 : Base}

/-- the record tells what happens to whoever agrees on what the operation looks at -/
def RecOk (E : Env) (ops : Array Oper) (w0 : Base) (r : Rec) (f : Fr) (m : Mem) : Prop :=
  ∀ (f2 : Fr) (m2 : Mem), (∀ t ∈ r.o.looksAt ops, f2 t = f t) → (∀ x ∈ r.ft, m2 x.2 = m x.2) →
    ∀ (μ : Ro) (φ : Nat → Phys) (a : Act) (w : World) (K : Act → World → Prop) (Q : Exit → Act → World → Prop), Rel E.P E.glob E.fn.ntmps w0 μ φ f2 m2 a w →
      (∀ μ' φ' a' w', Rel E.P E.glob E.fn.ntmps w0 μ' φ' (frPut f2 r.o.dst r.v) (appM m2 r.wr) a' w' → K a' w') →
      if Region.wanted r.o (yielded ops a.tmps) then r.o.wp E.P a w K Q else K (a.put r.o.dst undef) w
def RecsOk (E : Env) (ops : Array Oper) (w0 : Base) : Fr → Mem → List Rec → Prop
  | _, _, [] => True
  | f, m, r :: l => RecOk E ops w0 r f m ∧ (∀ id b, r.wr = some (id, b) → (true, id) ∈ r.ft) ∧ RecsOk E ops w0 (frPut f r.o.dst r.v) (appM m r.wr) l

theorem RecsOk.append {f : Fr} {m : Mem} {l l' : List Rec} : RecsOk E ops w0 f m (l ++ l') ↔ RecsOk E ops w0 f m l ∧ RecsOk E ops w0 (fAll f l) (mAll m l) l' := by
  induction l generalizing f m with
  | nil => simp [RecsOk, fAll, mAll]
  | cons r l ih => simp only [List.cons_append, RecsOk, fAll, mAll, ih, and_assoc]

/-- two operations, the first one of them earlier in the text -/
def Ord (ops : Array Oper) (q r : Rec) : Prop :=
  reach ops 4 r.o q.i = true ∨ (q.o.apart ops r.o = true ∧ (∀ id b, q.wr = some (id, b) → ∀ x ∈ r.ft, x.2 ≠ id) ∧ ∀ id b, r.wr = some (id, b) → ∀ x ∈ q.ft, x.2 ≠ id)

theorem edgeOn_ok {o : Oper} {j : Nat} (h : edgeOn o j = true) : ∃ e ∈ o.after, Region.binds .any e = true ∧ e.on = j := by
  unfold edgeOn at h
  obtain ⟨e, he, h⟩ := List.any_eq_true.1 h
  have he : e ∈ o.after := Array.mem_toList_iff.1 he
  simp only [Bool.and_eq_true] at h
  exact ⟨e, he, h.1, Nat.eq_of_beq_eq_true h.2⟩

abbrev listed? (l : Array Bool) : Nat → Bool := fun i => l.getD i false

theorem any_order {recs : List Rec} {f0 : Fr} {m0 : Mem} {Q : Exit → Act → World → Prop}
    (hlt : recs.Pairwise fun q r => q.i < r.i) (hin : ∀ r ∈ recs, ops[r.i]? = some r.o) (hall : ∀ i o, ops[i]? = some o → ∃ r ∈ recs, r.i = i ∧ r.o = o)
    (hord : recs.Pairwise (Ord ops)) (hedge : ∀ r ∈ recs, ∀ e ∈ r.o.after, Region.binds .any e = true → e.on < r.i) (hok : RecsOk E ops w0 f0 m0 recs)
    (hQ : ∀ μ φ a w, Rel E.P E.glob E.fn.ntmps w0 μ φ (fAll f0 recs) (mAll m0 recs) a w → Q .normal a w) :
    ∀ (fuel : Nat) (listed : Array Bool), listed.size = ops.size → listed.toList.countP (fun b => !b) ≤ fuel →
      (∀ r ∈ recs, listed? listed r.i = true → ∀ e ∈ r.o.after, Region.binds .any e = true → listed? listed e.on = true) →
      ∀ (μ : Ro) (φ : Nat → Phys) (a : Act) (w : World), Rel E.P E.glob E.fn.ntmps w0 μ φ (fSel (listed? listed) f0 recs) (mSel (listed? listed) m0 recs) a w → wpAny E.P .any ops Q fuel listed a w := by
  -- when all are listed
  have done : ∀ (listed : Array Bool), (∀ r ∈ recs, listed? listed r.i = true) → ∀ (μ : Ro) (φ : Nat → Phys) (a : Act) (w : World), Rel E.P E.glob E.fn.ntmps w0 μ φ (fSel (listed? listed) f0 recs) (mSel (listed? listed) m0 recs) a w → Q .normal a w := by
    intro listed hl μ φ a w hR
    have e1 : fSel (listed? listed) f0 recs = fAll f0 recs := funext fun t => fSel_all rfl fun q hq _ => hl q hq
    have e2 : mSel (listed? listed) m0 recs = mAll m0 recs := funext fun t => mSel_all rfl fun q hq _ _ => hl q hq
    rw [e1, e2] at hR
    exact hQ μ φ a w hR
  have noReady : ∀ (listed : Array Bool), listed.size = ops.size → Region.ready .any ops listed = [] → ∀ (n : Nat) (r : Rec), r ∈ recs → r.i < n → listed? listed r.i = true := by
    intro listed hs hr n
    induction n with
    | zero => intro r _ h; omega
    | succ n ih =>
      intro r hr' hi
      cases hc : listed? listed r.i with
      | true => rfl
      | false =>
        exfalso
        have hlt : r.i < listed.size := by rw [hs]; exact (Array.getElem?_eq_some_iff.1 (hin r hr')).1
        have : r.i ∈ Region.ready .any ops listed := mem_ready.2 ⟨by
          simp only [listed?, Array.getD_eq_getD_getElem?, Array.getElem?_eq_getElem hlt, Option.getD_some] at hc ⊢; exact hc, r.o, hin r hr', fun e he hb => by
          have h1 := hedge r hr' e he hb
          have h2 : e.on < ops.size := by have := (Array.getElem?_eq_some_iff.1 (hin r hr')).1; omega
          obtain ⟨q, hq, hqi, _⟩ := hall e.on ops[e.on] (Array.getElem?_eq_getElem h2)
          have := ih q hq (by omega)
          rwa [hqi] at this⟩
        rw [hr] at this; cases this
  intro fuel
  induction fuel with
  | zero =>
    intro listed hs hc hcl μ φ a w hR
    have hall' : ∀ r ∈ recs, listed? listed r.i = true := fun r hr => by
      have hlt : r.i < listed.size := by rw [hs]; exact (Array.getElem?_eq_some_iff.1 (hin r hr)).1
      have := List.countP_eq_zero.1 (Nat.le_zero.1 hc) listed[r.i] (by simp)
      simp only [listed?, Array.getD_eq_getD_getElem?, Array.getElem?_eq_getElem hlt, Option.getD_some]
      simpa using this
    refine ⟨?_, done listed hall' μ φ a w hR⟩
    apply List.eq_nil_iff_forall_not_mem.2
    intro j hj
    obtain ⟨h0, o, ho, _⟩ := mem_ready.1 hj
    obtain ⟨r, hr, rfl, _⟩ := hall j o ho
    have h1 := hall' r hr
    have hlt : r.i < listed.size := by rw [hs]; exact (Array.getElem?_eq_some_iff.1 ho).1
    simp only [listed?, Array.getD_eq_getD_getElem?, Array.getElem?_eq_getElem hlt, Option.getD_some] at h0 h1
    rw [h0] at h1; cases h1
  | succ fuel ih =>
    intro listed hs hc hcl μ φ a w hR
    refine ⟨fun h0 => done listed (fun r hr => noReady listed hs h0 (r.i + 1) r hr (by omega)) μ φ a w hR, fun i hi => ?_⟩
    obtain ⟨hun, o, ho, hedges⟩ := mem_ready.1 hi
    obtain ⟨r, hr, rfl, rfl⟩ := hall i o ho
    have hilt : r.i < listed.size := by rw [hs]; exact (Array.getElem?_eq_some_iff.1 ho).1
    have hSi : listed? listed r.i = false := by
      simp only [listed?, Array.getD_eq_getD_getElem?, Array.getElem?_eq_getElem hilt, Option.getD_some] at hun ⊢; exact hun
    obtain ⟨pre, post, hsplit⟩ := List.append_of_mem hr
    subst hsplit
    have hpre : ∀ q ∈ pre, Ord ops q r := fun q hq => (List.pairwise_append.1 hord).2.2 q hq r (by simp)
    have hpost : ∀ q ∈ post, Ord ops r q := fun q hq => (List.pairwise_cons.1 (List.pairwise_append.1 hord).2.1).1 q hq
    have hipost : ∀ q ∈ post, q.i ≠ r.i := fun q hq => by have := (List.pairwise_cons.1 (List.pairwise_append.1 hlt).2.1).1 q hq; omega
    have hipre : ∀ q ∈ pre, q.i ≠ r.i := fun q hq => by have := (List.pairwise_append.1 hlt).2.2 q hq r (by simp); omega
    -- an edge from r: listed; an edge on r: not listed
    have hway : ∀ (n : Nat) (o : Oper) (j : Nat), (∀ e ∈ o.after, Region.binds .any e = true → listed? listed e.on = true) → reach ops n o j = true → listed? listed j = true := by
      have hdir : ∀ (o : Oper) (j : Nat), (∀ e ∈ o.after, Region.binds .any e = true → listed? listed e.on = true) → edgeOn o j = true → listed? listed j = true := fun o j ho h => by
        obtain ⟨e, he, hb, hon⟩ := edgeOn_ok h
        have := ho e he hb
        rw [hon] at this; exact this
      intro n
      induction n with
      | zero => exact fun o j ho h => hdir o j ho h
      | succ n ihn =>
        intro o j ho h
        simp only [reach, Bool.or_eq_true] at h
        rcases h with h | h
        · exact hdir o j ho h
        · obtain ⟨e, he, h⟩ := List.any_eq_true.1 h
          simp only [Bool.and_eq_true] at h
          obtain ⟨hb, h⟩ := h
          have he : e ∈ o.after := Array.mem_toList_iff.1 he
          split at h
          · rename_i p hp
            obtain ⟨q, hq, hqi, hqo⟩ := hall e.on p hp
            have hle := ho e he hb
            rw [← hqi] at hle
            exact ihn p j (fun e' he' hb' => hcl q hq hle e' (by rw [hqo]; exact he') hb') h
          · cases h
    have hin1 : ∀ q : Rec, reach ops 4 r.o q.i = true → listed? listed q.i = true := fun q h => hway 4 r.o q.i hedges h
    have hout : ∀ q ∈ post, reach ops 4 q.o r.i = true → listed? listed q.i = false := fun q hq h => by
      cases hc' : listed? listed q.i with
      | false => rfl
      | true =>
        have := hway 4 q.o r.i (hcl q (by simp [hq]) hc') h
        rw [hSi] at this; cases this
    have hskip : ∀ (f : Fr), fSel (listed? listed) f (r :: post) = fSel (listed? listed) f post := fun f => by rw [fSel, hSi]; rfl
    have hskipm : ∀ (m : Mem), mSel (listed? listed) m (r :: post) = mSel (listed? listed) m post := fun m => by rw [mSel, hSi]; rfl
    obtain ⟨_, hrok, hrw, _⟩ := RecsOk.append.1 hok
    unfold wpOp
    rw [hin r hr]
    simp only
    have hf2 : ∀ t ∈ r.o.looksAt ops, fSel (listed? listed) f0 (pre ++ r :: post) t = fAll f0 pre t := fun t ht => by
      rw [fSel_append, hskip, fSel_none fun q hq hd => ?_]
      · refine fSel_all rfl fun q hq hd => ?_
        rcases hpre q hq with h | ⟨h, _⟩
        · exact hin1 q h
        · exact absurd ht ((Oper.apart_spec h).1 t hd)
      · rcases hpost q hq with h | ⟨h, _⟩
        · exact hout q hq h
        · exact absurd ht ((Oper.apart_spec h).2.2 t hd)
    have hm2 : ∀ x ∈ r.ft, mSel (listed? listed) m0 (pre ++ r :: post) x.2 = mAll m0 pre x.2 := fun x hx => by
      rw [mSel_append, hskipm, mSel_none fun q hq b hb => ?_]
      · refine mSel_all rfl fun q hq b hb => ?_
        rcases hpre q hq with h | ⟨_, h, _⟩
        · exact hin1 q h
        · exact absurd rfl (h _ b hb x hx)
      · rcases hpost q hq with h | ⟨_, _, h⟩
        · exact hout q hq h
        · exact absurd rfl (h _ b hb x hx)
    have hwp := hrok _ _ hf2 hm2 μ φ a w (wpAny E.P .any ops Q fuel (listed.setIfInBounds r.i true)) Q hR fun μ' φ' a' w' hR' => by
      have hS' : ∀ j, listed? (listed.setIfInBounds r.i true) j = if j = r.i then true else listed? listed j := fun j => by
        simp only [listed?, Array.getD_eq_getD_getElem?, Array.getElem?_setIfInBounds]
        by_cases e : r.i = j
        · subst e; simp [hilt]
        · have e' : ¬ j = r.i := fun h => e h.symm
          simp [e, e']
      refine ih (listed.setIfInBounds r.i true) (by simp [hs]) ?_ ?_ μ' φ' a' w' ?_
      · rw [Array.toList_setIfInBounds, List.countP_set (by simpa using hilt)]
        have : listed.toList[r.i]'(by simpa using hilt) = false := by
          simp only [listed?, Array.getD_eq_getD_getElem?, Array.getElem?_eq_getElem hilt, Option.getD_some] at hSi; simpa using hSi
        rw [this]
        simp only [Bool.not_false, if_true, Bool.not_true, Bool.false_eq_true, if_false]
        omega
      · intro q hq hq1 e he hb
        rw [hS'] at hq1 ⊢
        split
        · rfl
        · split at hq1
          · rename_i hqi
            have : q = r := by
              rcases List.mem_append.1 hq with h | h
              · exact absurd hqi (hipre q h)
              · rcases List.mem_cons.1 h with h | h
                · exact h
                · exact absurd hqi (hipost q h)
            subst this
            exact hedges e he hb
          · exact hcl q hq hq1 e he hb
      · have e1 : fSel (listed? (listed.setIfInBounds r.i true)) f0 (pre ++ r :: post) = frPut (fSel (listed? listed) f0 (pre ++ r :: post)) r.o.dst r.v := funext fun t => by
          rw [fSel_append, fSel_append, hskip, fSel, hS', if_pos rfl]
          simp only [cond]
          by_cases hd : r.o.dst = some t
          · rw [hd, frPut_eq, fSel_none fun q hq hqd => ?_, frPut_eq]
            rw [hS', if_neg (hipost q hq)]
            rcases hpost q hq with h | ⟨h, _⟩
            · exact hout q hq h
            · exact absurd hqd ((Oper.apart_spec h).2.1 t hd)
          · rw [frPut_ne hd]
            refine fSel_congr ?_ fun q hq => by rw [hS', if_neg (hipost q hq)]
            rw [frPut_ne hd]
            exact fSel_congr rfl fun q hq => by rw [hS', if_neg (hipre q hq)]
        have e2 : mSel (listed? (listed.setIfInBounds r.i true)) m0 (pre ++ r :: post) = appM (mSel (listed? listed) m0 (pre ++ r :: post)) r.wr := funext fun id => by
          rw [mSel_append, mSel_append, hskipm, mSel, hS', if_pos rfl]
          simp only [cond]
          by_cases hd : ∃ b, r.wr = some (id, b)
          · obtain ⟨b, hd⟩ := hd
            rw [hd, appM_eq, mSel_none fun q hq b' hqd => ?_, appM_eq]
            rw [hS', if_neg (hipost q hq)]
            rcases hpost q hq with h | ⟨_, _, h⟩
            · exact hout q hq h
            · exact absurd rfl (h id b' hqd (true, id) (hrw id b hd))
          · have hd' : ∀ b, r.wr ≠ some (id, b) := fun b hb => hd ⟨b, hb⟩
            rw [appM_ne hd']
            refine mSel_congr ?_ fun q hq => by rw [hS', if_neg (hipost q hq)]
            rw [appM_ne hd']
            exact mSel_congr rfl fun q hq => by rw [hS', if_neg (hipre q hq)]
        rw [e1, e2]; exact hR'
    split
    · rename_i hw
      rw [if_pos hw] at hwp
      exact .inl hwp
    · rename_i hw
      rw [if_neg hw] at hwp
      exact hwp
end
end Go.Ab
