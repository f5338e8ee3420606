/- The arguments of a law as pure values: what a reading of them says, as the model has it. -/
import Derived.Test.YtacjfkmonjbcmaaAbSeat
import Derived.WalkKit
import Derived.ProofKit
import Derived.OpenShut
import Derived.ShutString
import Derived.ChangeOld
set_option linter.unusedVariables false
namespace Go.Ab
open Go.RowKit (Below)
def mkE (agg : Bool) (qs : List PV) : PV := match agg with
  | true => .agg qs
  | false => qs.getD 0 .bad
def fieldsOk (P : Program) (ok : TypeId → Bool) (size : Nat) : List Field → Nat → Bool
  | [], off => Nat.beq off size
  | f :: r, off => Nat.beq f.offset off && ok f.type && fieldsOk P ok size r (off + csz P f.type)
def plainT (P : Program) : Nat → TypeId → Bool
  | 0, _ => false
  | d + 1, t => match P.underlying t with
    | some .bool => true
    | some (.int _) => true
    | some .string => true
    | some (.slice e) => plainT P d e && Nat.blt 0 (csz P e) && (isAggT P e || Nat.beq (csz P e) 1)
    | some (.struct fs) => fieldsOk P (plainT P d) (csz P t) fs.toList 0
    | some (.array n e) => plainT P d e && Nat.beq (n * csz P e) (csz P t)
    | _ => false

def ShpF (P : Program) (shp : TypeId → List PV → Prop) : List Field → List PV → Prop
  | [], ps => ps = []
  | f :: r, ps => ∃ a b, ps = a ++ b ∧ a.length = csz P f.type ∧ shp f.type a ∧ ShpF P shp r b
def ShpN (shp : List PV → Prop) (c : Nat) : Nat → List PV → Prop
  | 0, ps => ps = []
  | n + 1, ps => ∃ a b, ps = a ++ b ∧ a.length = c ∧ shp a ∧ ShpN shp c n b
mutual
def blk {H : Type} : DataW H → Nat
  | .lit (.string b) => b.length + 1
  | .slice es _ => blkL es + 1
  | .agg ps => blkL ps + 1
  | _ => 1
def blkL {H : Type} : List (DataW H) → Nat
  | [] => 0
  | d :: r => blk d + blkL r
end
theorem blk_pos {H : Type} (d : DataW H) : 1 ≤ blk d := by
  cases d with
  | lit l => cases l <;> simp [blk]
  | _ => simp [blk]
theorem blkL_mem {H : Type} : ∀ {l : List (DataW H)} {d : DataW H}, d ∈ l → blk d ≤ blkL l
  | x :: r, d, h => by
    simp only [blkL]
    rcases List.mem_cons.1 h with rfl | h
    · omega
    · have := blkL_mem h; omega
theorem blkL_len {H : Type} : ∀ (l : List (DataW H)), l.length ≤ blkL l
  | [] => by simp [blkL]
  | x :: r => by
    have := blkL_len r
    have := blk_pos x
    simp only [blkL, List.length_cons]; omega
def ShpM (M : Nat) (P : Program) : Nat → TypeId → List PV → Prop
  | 0, _, _ => False
  | d + 1, t, ps => match P.underlying t with
    | some .bool => ∃ b, ps = [.bool b]
    | some (.int k) => ∃ n, ps = [.int k n] ∧ (Lit.int k n).wf = true
    | some .string => ∃ s : Bytes, ps = [.str s] ∧ s.length ≤ M
    | some (.slice e) => ∃ es, ps = [.rs (csz P e) es] ∧ es.length ≤ M ∧ ∀ x ∈ es, ∃ qs, x = mkE (isAggT P e) qs ∧ qs.length = csz P e ∧ ShpM M P d e qs
    | some (.struct fs) => ShpF P (ShpM M P d) fs.toList ps
    | some (.array n e) => ShpN (ShpM M P d e) (csz P e) n ps
    | _ => False
abbrev Shp (P : Program) : Nat → TypeId → List PV → Prop := ShpM maxLen P

def Reps (P : Program) (w : World) (ps : List PV) (cs : List Value) : Prop := ∀ (i : Nat) p v, ps[i]? = some p → cs[i]? = some v → RepPV P (heapOf w) p v ∧ v.oneCell' = true

theorem Reps.one {P : Program} {w : World} {p : PV} {v : Value} (h : RepPV P (heapOf w) p v) (h1 : v.oneCell' = true) : Reps P w [p] [v] := by
  intro i q u hq hu
  cases i with
  | zero => simp at hq hu; subst hq; subst hu; exact ⟨h, h1⟩
  | succ i => simp at hq
theorem Reps.append {P : Program} {w : World} {a b : List PV} {cs : List Value} {n : Nat} (ha : Reps P w a (cs.take n)) (hb : Reps P w b (cs.drop n)) (hl : a.length = n) : Reps P w (a ++ b) cs := by
  intro i p v hp hv
  rw [List.getElem?_append] at hp
  split at hp
  · rename_i h
    exact ha i p v hp (by rw [List.getElem?_take_of_lt (by omega)]; exact hv)
  · rename_i h
    exact hb (i - a.length) p v hp (by rw [List.getElem?_drop, hl]; rw [← hv]; congr 1; omega)

theorem mkE_cells {P : Program} {M d : Nat} {e : TypeId} {qs : List PV} (ha : isAggT P e = true ∨ csz P e = 1) (h : ShpM M P d e qs) (hl : qs.length = csz P e) : (mkE (isAggT P e) qs).cells = qs := by
  cases hagg : isAggT P e with
  | true => rfl
  | false =>
    have h1 : csz P e = 1 := ha.resolve_left (by simp [hagg])
    cases d with
    | zero => exact h.elim
    | succ d =>
      unfold ShpM at h
      unfold isAggT at hagg
      split at h
      · obtain ⟨b, rfl⟩ := h; rfl
      · obtain ⟨n, rfl, _⟩ := h; rfl
      · obtain ⟨s, rfl, _⟩ := h; rfl
      · obtain ⟨es, rfl, _⟩ := h; rfl
      · rename_i hu; rw [hu] at hagg; cases hagg
      · rename_i hu; rw [hu] at hagg; cases hagg
      · exact h.elim

section
variable {P : Program} {w : World} {H : Type} {enc : TypeId × Value → H} {spare : Nat → Bool} {held : Bool}

theorem fieldsOk_le {ok : TypeId → Bool} {size : Nat} : ∀ {fs : List Field} {off : Nat}, fieldsOk P ok size fs off = true → off ≤ size
  | [], off, h => by simp only [fieldsOk] at h; have := Nat.eq_of_beq_eq_true h; omega
  | f :: r, off, h => by
    simp only [fieldsOk, Bool.and_eq_true] at h
    have := fieldsOk_le h.2
    omega

theorem cells?_ok {base : Nat} {a : Addr} {n : Nat} {cs : List Value} (h : w.cells? base a n = some cs) : cs.length = n ∧ ∀ i v, cs[i]? = some v → w.cell? (a.add i) = some v := by
  unfold World.cells? at h
  split at h
  · have key : ∀ (l : List Nat) (cs : List Value), l.mapM (fun i => w.cell? (a.add i)) = some cs → cs.length = l.length ∧ ∀ (i : Nat) (v : Value) (k : Nat), cs[i]? = some v → l[i]? = some k → w.cell? (a.add k) = some v := by
      intro l
      induction l with
      | nil => intro cs h; simp at h; subst h; simp
      | cons x l ih =>
        intro cs h
        rw [List.mapM_cons] at h
        simp only [Option.pure_def, Option.bind_eq_bind, Option.bind_eq_some_iff] at h
        obtain ⟨v, hv, vs, hvs, h⟩ := h
        simp only [Option.some.injEq] at h; subst h
        obtain ⟨h1, h2⟩ := ih vs hvs
        refine ⟨by simp [h1], fun i u k hi hk => ?_⟩
        cases i with
        | zero => simp at hi hk; subst hi; subst hk; exact hv
        | succ i => exact h2 i u k (by simpa using hi) (by simpa using hk)
    obtain ⟨h1, h2⟩ := key _ _ h
    simp at h1
    refine ⟨h1, fun i v hi => h2 i v i hi ?_⟩
    exact List.getElem?_range (by have := (List.getElem?_eq_some_iff.1 hi).1; omega)
  · cases h

theorem cellAt_of_cell? {a : Addr} {v : Value} (h : w.cell? a = some v) : cellAt (heapOf w) a.block a.off = some v := by
  unfold World.cell? at h
  unfold cellAt heapOf
  split at h
  · rename_i hb
    split at h
    · cases h
    · rw [hb]; exact h
  · cases h

theorem trod_shp {M : Nat} : ∀ (d : Nat) (t : TypeId) (cs : List Value) (fuel : Nat) (x : DataW H × List MemPlace), plainT P d t = true → DataW.trod enc P w 0 spare held fuel t cs = some x → (M = maxLen ∨ blk x.1 ≤ M) →
    ∃ ps, ps.length = cs.length ∧ ShpM M P d t ps ∧ Reps P w ps cs := by
  intro d
  induction d with
  | zero => intro t cs fuel x h; cases h
  | succ d ih =>
    intro t cs fuel x hp h hB
    unfold plainT at hp
    split at hp
    · rename_i hu
      obtain ⟨b, rfl, _⟩ := DataW.trod_bool hu h
      exact ⟨[.bool b], rfl, by unfold ShpM; rw [hu]; exact ⟨b, rfl⟩, .one .bool rfl⟩
    · rename_i k hu
      obtain ⟨n, rfl, _, hw⟩ := DataW.trod_int hu h
      exact ⟨[.int k n], rfl, by unfold ShpM; rw [hu]; exact ⟨n, rfl, hw⟩, .one (.int hw) rfl⟩
    · rename_i hu
      obtain ⟨s, rfl, hx, hw⟩ := DataW.trod_string hu h
      have hlen : s.data.toList.length ≤ M := by
        rcases hB with hB | hB
        · subst hB; simpa using hw
        · rw [hx] at hB; simp only [blk] at hB; omega
      refine ⟨[.str s.data.toList], rfl, by unfold ShpM; rw [hu]; exact ⟨_, rfl, hlen⟩, .one ?_ rfl⟩
      exact RepPV.str (P := P) (μ := heapOf w) (s := s.data.toList) (by simpa using hw)
    · rename_i e hu
      simp only [Bool.and_eq_true, Bool.or_eq_true] at hp
      obtain ⟨⟨hpe, hpos⟩, hagg⟩ := hp
      rw [Nat.blt_eq] at hpos
      have hagg : isAggT P e = true ∨ csz P e = 1 := hagg.imp id Nat.eq_of_beq_eq_true
      rcases DataW.trod_slice hu h with ⟨rfl, _⟩ | ⟨a, len, cap, elems, rest, n, _, rfl, hx, _, hlc, hcm, hel, hget, _⟩
      · exact ⟨[.rs (csz P e) []], rfl, by unfold ShpM; rw [hu]; exact ⟨[], rfl, by simp, by simp⟩, .one .rsNil rfl⟩
      · have each : ∀ i, i < len → ∃ qs ci, ci.length = csz P e ∧ (∀ j v, ci[j]? = some v → w.cell? ((a.add (i * csz P e)).add j) = some v) ∧ qs.length = csz P e ∧ ShpM M P d e qs ∧ Reps P w qs ci := by
          intro i hi
          have h1 := hget i hi
          rw [List.getElem?_eq_getElem (by omega)] at h1
          obtain ⟨ci, hci, htr⟩ := Option.bind_eq_some_iff.1 h1
          obtain ⟨c1, c2⟩ := cells?_ok hci
          obtain ⟨qs, q1, q2, q3⟩ := ih e ci n _ hpe htr (hB.imp id fun hb => by
            rw [hx] at hb; simp only [blk] at hb
            have := blkL_mem (List.mem_map.2 ⟨_, List.getElem_mem (show i < elems.length by omega), rfl⟩ : (elems[i]'(by omega)).1 ∈ elems.map (·.1))
            omega)
          exact ⟨qs, ci, c1, c2, by rw [q1, c1]; rfl, q2, q3⟩
        have hch : ∃ f : Nat → List PV × List Value, ∀ i, i < len → (f i).2.length = csz P e ∧ (∀ j v, (f i).2[j]? = some v → w.cell? ((a.add (i * csz P e)).add j) = some v) ∧ (f i).1.length = csz P e ∧ ShpM M P d e (f i).1 ∧ Reps P w (f i).1 (f i).2 := by
          refine ⟨fun i => if h : i < len then ((each i h).choose, (each i h).choose_spec.choose) else ([], []), fun i hi => ?_⟩
          simp only [dif_pos hi]
          exact (each i hi).choose_spec.choose_spec
        obtain ⟨f, hf⟩ := hch
        have hes : ∀ i x, ((List.range len).map fun i => mkE (isAggT P e) (f i).1)[i]? = some x → i < len ∧ x = mkE (isAggT P e) (f i).1 := fun i x hx => by
          rw [List.getElem?_map] at hx
          obtain ⟨k, hk, rfl⟩ := Option.map_eq_some_iff.1 hx
          have hlt : i < len := by have := (List.getElem?_eq_some_iff.1 hk).1; simpa using this
          rw [List.getElem?_range hlt] at hk
          simp at hk; subst hk
          exact ⟨hlt, rfl⟩
        have hlen : ((List.range len).map fun i => mkE (isAggT P e) (f i).1).length = len := by simp
        refine ⟨[.rs (csz P e) ((List.range len).map fun i => mkE (isAggT P e) (f i).1)], rfl, ?_, .one ?_ rfl⟩
        · unfold ShpM; rw [hu]
          refine ⟨_, rfl, by
            rw [hlen]
            rcases hB with hB | hB
            · omega
            · rw [hx] at hB; simp only [blk] at hB
              have := blkL_len (elems.map (·.1))
              rw [List.length_map] at this; omega, fun x hx => ?_⟩
          obtain ⟨i, hi⟩ := List.getElem?_of_mem hx
          obtain ⟨hlt, rfl⟩ := hes i x hi
          exact ⟨_, rfl, (hf i hlt).2.2.1, (hf i hlt).2.2.2.1⟩
        · by_cases h0 : len = 0
          · subst h0
            exact RepPV.rsE (P := P) (μ := heapOf w) hcm
          · have hspot : a.spot = none := by
              obtain ⟨c1, c2, c3, _⟩ := hf 0 (by omega)
              have h1 : (f 0).2[0]? = some ((f 0).2[0]'(by omega)) := List.getElem?_eq_getElem (by omega)
              have := World.cell?_spot (c2 0 _ h1)
              simpa [Addr.add] using this
            obtain ⟨b, o, sp⟩ := a
            simp only at hspot; subst hspot
            have hcells : ∀ i x, ((List.range len).map fun i => mkE (isAggT P e) (f i).1)[i]? = some x → i < len ∧ x.cells = (f i).1 := fun i x hx => by
              obtain ⟨hlt, rfl⟩ := hes i x hx
              exact ⟨hlt, mkE_cells hagg (hf i hlt).2.2.2.1 (hf i hlt).2.2.1⟩
            have hX : ∀ i x j p, ((List.range len).map fun i => mkE (isAggT P e) (f i).1)[i]? = some x → x.cells[j]? = some p → (f i).1[j]? = some p ∧ (f i).2[j]? = some ((f i).2.getD j undef) := fun i x j p hx hj => by
              obtain ⟨hlt, hc⟩ := hcells i x hx
              rw [hc] at hj
              refine ⟨hj, ?_⟩
              obtain ⟨c1, c2, c3, _⟩ := hf i hlt
              have : j < (f i).2.length := by have := (List.getElem?_eq_some_iff.1 hj).1; omega
              rw [List.getElem?_eq_getElem this]; simp [List.getD, this]
            have := RepPV.rs (P := P) (μ := heapOf w) (sz := csz P e) (es := (List.range len).map fun i => mkE (isAggT P e) (f i).1) (b := b) (o := o) (cap := cap) (fun i j => (f i).2.getD j undef) (by rw [hlen]; exact hlc) hcm
              (fun i x hx => by obtain ⟨hlt, hc⟩ := hcells i x hx; rw [hc]; exact (hf i hlt).2.2.1)
              (fun i x j p hx hj => by
                obtain ⟨h1, h2⟩ := hX i x j p hx hj
                have h3 := (hf i (hcells i x hx).1).2.1 j _ h2
                have h4 := cellAt_of_cell? h3
                rw [Addr.add_mid, Addr.add_mid] at h4
                exact h4)
              (fun i x j p hx hj => by
                obtain ⟨h1, h2⟩ := hX i x j p hx hj
                exact ((hf i (hcells i x hx).1).2.2.2.2 j p _ h1 h2).1)
              (fun i x j p hx hj => by
                obtain ⟨h1, h2⟩ := hX i x j p hx hj
                exact ((hf i (hcells i x hx).1).2.2.2.2 j p _ h1 h2).2)
            rw [hlen] at this
            exact this
    · rename_i fs hu
      obtain ⟨xs, n, _, hx, hcl, hxl, hfs⟩ := DataW.trod_struct hu h
      have hcl : cs.length = csz P t := hcl
      have key : ∀ (l : List Field) (off : Nat), (∀ f ∈ l, ∃ y, DataW.trod enc P w 0 spare held n f.type ((cs.drop f.offset).take (csz P f.type)) = some y ∧ (M = maxLen ∨ blk y.1 ≤ M)) → fieldsOk P (plainT P d) (csz P t) l off = true →
          ∃ ps, ps.length = cs.length - off ∧ ShpF P (ShpM M P d) l ps ∧ Reps P w ps (cs.drop off) := by
        intro l
        induction l with
        | nil =>
          intro off _ hok
          have := Nat.eq_of_beq_eq_true hok
          exact ⟨[], by simp; omega, rfl, by intro i p v hp; simp at hp⟩
        | cons f l ihl =>
          intro off hf hok
          simp only [fieldsOk, Bool.and_eq_true] at hok
          obtain ⟨⟨hoff, hpf⟩, hok⟩ := hok
          have hoff := Nat.eq_of_beq_eq_true hoff
          obtain ⟨y, hy, hyB⟩ := hf f (by simp)
          rw [hoff] at hy
          have hle := fieldsOk_le hok
          obtain ⟨a, a1, a2, a3⟩ := ih f.type _ n y hpf hy hyB
          obtain ⟨b, b1, b2, b3⟩ := ihl _ (fun g hg => hf g (by simp [hg])) hok
          have hal : a.length = csz P f.type := by rw [a1]; simp; omega
          refine ⟨a ++ b, by simp [hal, b1]; omega, ⟨a, b, rfl, hal, a2, b2⟩, Reps.append (n := csz P f.type) a3 (by rw [List.drop_drop]; exact b3) hal⟩
      obtain ⟨ps, p1, p2, p3⟩ := key fs.toList 0 (fun f hf => by
        obtain ⟨i, hi⟩ := List.getElem?_of_mem hf
        have hi' : fs[i]? = some f := by rw [← Array.getElem?_toList]; exact hi
        have h1 := hfs i f hi'
        have hlt : i < xs.length := by have := (Array.getElem?_eq_some_iff.1 hi').1; omega
        rw [List.getElem?_eq_getElem hlt] at h1
        exact ⟨_, h1, hB.imp id fun hb => by
          rw [hx] at hb; simp only [blk] at hb
          have := blkL_mem (List.mem_map.2 ⟨_, List.getElem_mem hlt, rfl⟩ : (xs[i]).1 ∈ xs.map (·.1))
          omega⟩) hp
      exact ⟨ps, by simpa using p1, by unfold ShpM; rw [hu]; exact p2, by simpa using p3⟩
    · rename_i n e hu
      simp only [Bool.and_eq_true] at hp
      obtain ⟨hpe, hsz⟩ := hp
      have hsz := Nat.eq_of_beq_eq_true hsz
      obtain ⟨xs, m, _, hx, hcl, hxl, hfs⟩ := DataW.trod_array hu h
      have hcl : cs.length = csz P t := hcl
      have key : ∀ (k i : Nat), i + k = n → ∃ ps, ps.length = cs.length - i * csz P e ∧ ShpN (ShpM M P d e) (csz P e) k ps ∧ Reps P w ps (cs.drop (i * csz P e)) := by
        intro k
        induction k with
        | zero =>
          intro i hi
          have : i = n := by omega
          subst this
          exact ⟨[], by simp; omega, rfl, by intro i p v hp; simp at hp⟩
        | succ k ihk =>
          intro i hi
          have h1 := hfs i (by omega)
          rw [List.getElem?_eq_getElem (by omega)] at h1
          obtain ⟨a, a1, a2, a3⟩ := ih e _ m _ hpe h1 (hB.imp id fun hb => by
            rw [hx] at hb; simp only [blk] at hb
            have := blkL_mem (List.mem_map.2 ⟨_, List.getElem_mem (show i < xs.length by omega), rfl⟩ : (xs[i]'(by omega)).1 ∈ xs.map (·.1))
            omega)
          obtain ⟨b, b1, b2, b3⟩ := ihk (i + 1) (by omega)
          have hbd : i * csz P e + csz P e ≤ cs.length := by
            rw [hcl, ← hsz]
            have : (i + 1) * csz P e ≤ n * csz P e := Nat.mul_le_mul_right _ (by omega)
            rw [Nat.add_mul] at this; omega
          have hal : a.length = csz P e := by
            rw [a1]
            show ((cs.drop (i * csz P e)).take (csz P e)).length = csz P e
            simp; omega
          refine ⟨a ++ b, by simp [hal, b1, Nat.add_mul]; omega, ⟨a, b, rfl, hal, a2, b2⟩, Reps.append (n := csz P e) a3 ?_ hal⟩
          rw [List.drop_drop]
          rw [Nat.add_mul, Nat.one_mul] at b3; exact b3
      obtain ⟨ps, p1, p2, p3⟩ := key n 0 (by omega)
      exact ⟨ps, by simpa using p1, by unfold ShpM; rw [hu]; exact p2, by simpa using p3⟩
    · cases hp
theorem arg_repM {M d : Nat} {t : TypeId} {v : Value} {y : DataW H} {places : List MemPlace} {r : Reach} {b0 : Nat} (hp : plainT P (d + 1) t = true) (hok : Value.okWide P w r b0 t v) (h : DataW.Trod enc P w 0 spare held t v y places) (hB : M = maxLen ∨ blk y ≤ M) :
    ∃ ps, ShpM M P (d + 1) t ps ∧ RepPV P (heapOf w) (mkE (isAggT P t) ps) v := by
  obtain ⟨fuel, hf⟩ := h
  obtain ⟨ps, p1, p2, p3⟩ := trod_shp (M := M) (d + 1) t _ fuel _ hp hf hB
  refine ⟨ps, p2, ?_⟩
  have agg : isAggT P t = true → (∃ cs, v = .agg cs) → RepPV P (heapOf w) (mkE (isAggT P t) ps) v := by
    rintro ha ⟨cs, rfl⟩
    rw [ha]
    simp only [Value.cells] at p1 p3
    exact .agg (by simpa using p1) (fun i p x hi hx => (p3 i p x hi (by rw [Array.getElem?_toList]; exact hx)).1) fun i x hx => by
      have hlt : i < ps.length := by have := (Array.getElem?_eq_some_iff.1 hx).1; simp at p1; omega
      exact (p3 i _ x (List.getElem?_eq_getElem hlt) (by rw [Array.getElem?_toList]; exact hx)).2
  have one : isAggT P t = false → v.cells = #[v] → (∃ p, ps = [p]) → RepPV P (heapOf w) (mkE (isAggT P t) ps) v := by
    rintro ha hv ⟨p, rfl⟩
    rw [ha]
    exact (p3 0 p v rfl (by rw [hv]; rfl)).1
  unfold plainT at hp
  unfold ShpM at p2
  split at hp
  · rename_i hu
    rw [hu] at p2
    obtain ⟨b, hb⟩ := WideShapes.okWide_bool hu hok
    subst hb
    obtain ⟨b', hb'⟩ := p2
    exact one (by simp [isAggT, hu]) rfl ⟨_, hb'⟩
  · rename_i k hu
    rw [hu] at p2
    obtain ⟨b, hb⟩ := WideShapes.okWide_int hu hok
    subst hb
    obtain ⟨b', hb', _⟩ := p2
    exact one (by simp [isAggT, hu]) rfl ⟨_, hb'⟩
  · rename_i hu
    rw [hu] at p2
    obtain ⟨b, hb⟩ := WideShapes.okWide_string hu hok
    subst hb
    obtain ⟨b', hb', _⟩ := p2
    exact one (by simp [isAggT, hu]) rfl ⟨_, hb'⟩
  · rename_i e hu
    rw [hu] at p2
    obtain ⟨a, len, cap, hb⟩ := WideShapes.okWide_slice hu hok
    subst hb
    obtain ⟨b', hb', _⟩ := p2
    exact one (by simp [isAggT, hu]) rfl ⟨_, hb'⟩
  · rename_i fs hu
    refine agg (by simp [isAggT, hu]) ?_
    simp only [Value.okWide, hu] at hok
    obtain ⟨cs, hcs, _⟩ := hok
    exact ⟨cs, hcs⟩
  · rename_i n e hu
    refine agg (by simp [isAggT, hu]) ?_
    simp only [Value.okWide, hu] at hok
    obtain ⟨cs, hcs, _⟩ := hok
    exact ⟨cs, hcs⟩
  · cases hp
theorem arg_rep {d : Nat} {t : TypeId} {v : Value} {y : DataW H} {places : List MemPlace} {r : Reach} {b0 : Nat} (hp : plainT P (d + 1) t = true) (hok : Value.okWide P w r b0 t v) (h : DataW.Trod enc P w 0 spare held t v y places) :
    ∃ ps, Shp P (d + 1) t ps ∧ RepPV P (heapOf w) (mkE (isAggT P t) ps) v := arg_repM hp hok h (.inl rfl)
end
end Go.Ab
