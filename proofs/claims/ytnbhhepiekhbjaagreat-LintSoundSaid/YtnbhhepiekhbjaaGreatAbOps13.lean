/- The abstract operations are right, thirteenth part: looking up in maps, writing to them. -/
import Derived.Test.YtnbhhepiekhbjaaGreatAbOps12
set_option linter.unusedVariables false
namespace Go.Ab
open Go.RowKit (Below)

section
variable {R : Type} {E : Env}

theorem kdsOf_kds {P : Program} {t : TypeId} {ks : List Kd} (h : kdsOf P t = some ks) : kds P 8 t = some ks := by
  unfold kdsOf at h
  split at h
  · cases h
  · exact h

theorem keyOf_ok {kt : TypeId} {v : V} {key : PV} (h : keyOf E kt v = some key) : ∃ ks, kdsOf E.P kt = some ks ∧ keyOk E.P kt ks key = true ∧ ∀ (μ : Ro) (φ : Nat → Phys) (y : Value), RepV E.P μ φ v y → RepPV E.P μ key y := by
  unfold keyOf at h
  split at h
  · rename_i ks hks
    refine ⟨ks, hks, ?_⟩
    split at h
    · rename_i ha
      split at h
      · rename_i cs hc
        split at h
        · rename_i ps hp
          split at h
          · rename_i hck
            simp only [Option.some.injEq] at h; subst h
            obtain ⟨_, c2⟩ := aggCells_ok hc
            obtain ⟨p1, p2⟩ := frzs_ok hp
            refine ⟨by simp [keyOk, PV.cells, hck, ha, PV.isAgg], fun μ φ y hy => ?_⟩
            obtain ⟨xs, rfl, h1, h2, h3⟩ := c2 E.P μ φ y hy
            refine .agg (by omega) (fun i q z hq hz => ?_) h3
            obtain ⟨u, hu, hf⟩ := p2 i q hq
            exact frz_pure 1 hf (h2 i u z hu hz)
          · cases h
        · cases h
      · cases h
    · rename_i ha
      split at h
      · rename_i p
        split at h
        · rename_i hck
          simp only [Option.some.injEq] at h; subst h
          refine ⟨?_, fun μ φ y hy => by cases hy with | pv hy => exact hy⟩
          cases ks with
          | nil => simp [chk] at hck
          | cons kd r =>
            have hck' := hck
            simp only [chk, Bool.and_eq_true] at hck'
            have ha' : isAggT E.P kt = false := by simpa using ha
            cases kd <;> cases p <;> simp [kdIs] at hck' <;> simp_all [keyOk, PV.cells, PV.isAgg]
        · cases h
      · cases h
  · cases h
inductive MapAt (w : World) : Value → Array MapEntry → Prop
  | nil : MapAt w (.map none) #[]
  | at {g clock : Nat} {en : Array MapEntry} : w.heap[g]? = some (.map en clock) → MapAt w (.map (some g)) en

theorem run_lookup_kds {P : Program} {μ : Ro} {t kt et : TypeId} {ks : List Kd} {key z : PV} {zv y yi : Value} {w : World} {en : Array MapEntry} {l : List (PV × PV)} {ok : Bool} (hu : P.underlying t = some (.map kt et)) (hk : kdsOf P kt = some ks) (hkey : keyOk P kt ks key = true)
    (hyi : RepPV P μ key yi) (hy : MapAt w y en) (hE : EntOk P μ kt ks l en.toList) (hz : (zeroValue et).run P w = .ok zv w) (hzr : RepPV P μ z zv) :
    ∃ v, (Instr.lookup t y yi ok).run P w = .ok (if ok then .tuple #[v, .bool (mhas key l)] else v) w ∧ RepPV P μ (mlook key z l) v := by
  have hk8 := kdsOf_kds hk
  obtain ⟨hc, hv⟩ := keyOk_val hkey hyi
  obtain ⟨r, r1, r2⟩ := run_findKey_kds (v := .bad) (z := z) hk8 hc w hE
  have h1 := run_checkKey_kds 8 kt ks hk8 9992 w en.isEmpty key.cells hc
  rw [hv]
  have hrun : ∀ (x : Value × Bool), (r = none → x = (zv, false)) → (∀ j v, r = some (j, v) → x = (v, true)) → (Instr.lookup t y (mkVal P kt key.cells) ok).run P w = .ok (if ok then .tuple #[x.1, .bool x.2] else x.1) w := by
    intro x hx1 hx2
    cases hy with
    | nil =>
      have h1' : (Instr.checkKey true 10000 kt (mkVal P kt key.cells)).run P w = .ok () w := h1
      have r1' : (Instr.findKey kt (mkVal P kt key.cells) []).run P w = .ok r w := r1
      unfold Instr.lookup
      simp only [Sem.run_bind, run_underlying hu, Result.andThen_ok, Sem.run_pure]
      cases r with
      | none => rw [hx1 rfl]; cases ok <;> simp [h1', r1', hz]
      | some jv => obtain ⟨j, v⟩ := jv; rw [hx2 j v rfl]; cases ok <;> simp [h1', r1']
    | «at» hg =>
      have hgo := Go.MapKept.run_getObj_map (P := P) hg
      have h1' : (Instr.checkKey en.isEmpty 10000 kt (mkVal P kt key.cells)).run P w = .ok () w := h1
      unfold Instr.lookup
      simp only [Sem.run_bind, run_underlying hu, Result.andThen_ok, Sem.run_pure, hgo]
      cases r with
      | none => rw [hx1 rfl]; cases ok <;> simp [h1', r1, hz]
      | some jv => obtain ⟨j, v⟩ := jv; rw [hx2 j v rfl]; cases ok <;> simp [h1', r1]
  cases r2 with
  | none f1 f2 f3 =>
    refine ⟨zv, ?_, by rw [f2]; exact hzr⟩
    rw [f1]; exact hrun (zv, false) (fun _ => rfl) (fun j v h => by cases h)
  | @some j a u e f1 f2 f3 f4 f5 f6 =>
    refine ⟨e.val, ?_, by rw [f5]; exact (hE.rep j a u e f1 f2).2⟩
    rw [f4]; exact hrun (e.val, true) (fun h => by cases h) (fun j' v h => by simp only [Option.some.injEq, Prod.mk.injEq] at h; rw [h.2])

theorem xlookup_ok {t : TypeId} {x ix : V} {ok : Bool} {m : Mem} {k : V → Foot → Option R} {r : R} (h : xlookup E t x ix ok m k = some r) :
    ∃ v ft, (∀ m2 : Mem, (∀ x ∈ ft, m2 x.2 = m x.2) → ∀ (R' : Type) (k' : V → Foot → Option R'), xlookup E t x ix ok m2 k' = k' v ft) ∧ k v ft = some r ∧ (∀ x ∈ ft, x.1 = false) ∧ (∀ id, v.has id = false) ∧
    ∀ (G : Nat → Option (List PV)) (w0 : Base) (μ : Ro) (φ : Nat → Phys) (w : World) (y yi : Value), RelM E.P G w0 μ φ m w → RepV E.P μ φ x y → RepV E.P μ φ ix yi →
      ∃ u, (Instr.lookup t y yi ok).run E.P w = .ok u w ∧ RepV E.P μ φ v u := by
  have out : ∀ (q : PV) (b : Bool) (id : Nat), (if ok = true then V.tup [.pv q, .pv (.bool b)] else .pv q).has id = false := by
    intro q b id; cases ok <;> simp [V.has, hasL]
  have rep : ∀ (μ : Ro) (φ : Nat → Phys) (q : PV) (b : Bool) (v : Value), RepPV E.P μ q v → RepV E.P μ φ (if ok = true then V.tup [.pv q, .pv (.bool b)] else .pv q) (if ok = true then .tuple #[v, .bool b] else v) := by
    intro μ φ q b v hv
    cases ok with
    | false => exact .pv hv
    | true =>
      refine .tup (by simp) fun i p y hp hy => ?_
      match i with
      | 0 => simp at hp hy; subst hp; subst hy; exact .pv hv
      | 1 => simp at hp hy; subst hp; subst hy; exact .pv .bool
      | n + 2 => simp at hp
  unfold xlookup at h
  split at h
  · rename_i kt et hu
    split at h
    · rename_i z hz
      obtain ⟨zv, hz1, hz2⟩ := zeroPV_run hz
      split at h
      · rename_i id
        split at h
        · rename_i kt' es hm
          split at h
          · rename_i hkt
            subst hkt
            obtain ⟨key, hkey, h⟩ := Option.bind_eq_some_iff.1 h
            obtain ⟨q, q1, q2, q3, _⟩ := ldTy_ok h
            obtain ⟨ks, k1, k2, k3⟩ := keyOf_ok hkey
            refine ⟨_, _, fun m2 hm2 R' k' => by have := hm2 (false, id) (by simp); simp only at this; simp only [xlookup, hu, hz, this, hm, hkey, Option.bind_some, if_true]; exact q1 R' _, q2, by simp, out q _, fun G w0 μ φ w y yi hM hx hi => ?_⟩
            obtain ⟨g, en, clock, kk, hg, hh, hs, hk, hck, hv⟩ := hM.blk id _ hm
            rw [k1] at hk; simp only [Option.some.injEq] at hk; subst hk
            cases hx with
            | om hg' =>
              rw [hg] at hg'; simp only [Option.some.injEq] at hg'; subst hg'
              obtain ⟨v, v1, v2⟩ := run_lookup_kds (ok := ok) (z := z) hu k1 k2 (k3 μ φ yi hi) (.at hh) (l := es) ⟨by simpa using hs, hck, fun i k v e h1 h2 => hv i k v e h1 (by simpa using h2)⟩ (hz1 w) (hz2 μ)
              exact ⟨_, v1, rep μ φ q _ v (q3 _ _ _ v2)⟩
          · cases h
        · cases h
      · rename_i pm
        unfold mapCase at h
        split at h
        · obtain ⟨key, hkey, h⟩ := Option.bind_eq_some_iff.1 h
          obtain ⟨ks, k1, k2, k3⟩ := keyOf_ok hkey
          refine ⟨_, _, fun m2 hm2 R' k' => by simp only [xlookup, hu, hz, mapCase, hkey, Option.bind_some], h, by simp, out z _, fun G w0 μ φ w y yi hM hx hi => ?_⟩
          cases hx with
          | pv hx => cases hx with
            | nilm =>
              obtain ⟨v, v1, v2⟩ := run_lookup_kds (ok := ok) (z := z) hu k1 k2 (k3 μ φ yi hi) .nil (l := []) ⟨by simp, by simp, by simp⟩ (hz1 w) (hz2 μ)
              exact ⟨_, v1, rep μ φ z _ v v2⟩
        · rename_i kt' ks' vs'
          split at h
          · rename_i hkt
            subst hkt
            obtain ⟨key, hkey, h⟩ := Option.bind_eq_some_iff.1 h
            obtain ⟨q, q1, q2, q3, _⟩ := ldTy_ok h
            obtain ⟨ks, k1, k2, k3⟩ := keyOf_ok hkey
            refine ⟨_, _, fun m2 hm2 R' k' => by simp only [xlookup, hu, hz, mapCase, hkey, Option.bind_some, if_true]; exact q1 R' _, q2, by simp, out q _, fun G w0 μ φ w y yi hM hx hi => ?_⟩
            cases hx with
            | pv hx => cases hx with
              | @rm _ _ _ b clock en kk m1 m2 m3 m4 m5 m6 m7 =>
                rw [k1] at m4; simp only [Option.some.injEq] at m4; subst m4
                have hzip : ∀ (i : Nat) k v, (ks'.zip vs')[i]? = some (k, v) → ks'[i]? = some k ∧ vs'[i]? = some v := fun i k v h => by
                  rw [List.getElem?_zip_eq_some] at h; exact h
                obtain ⟨v, v1, v2⟩ := run_lookup_kds (ok := ok) (z := z) hu k1 k2 (k3 μ φ yi hi) (.at (hM.ro _ _ m1)) (l := ks'.zip vs') ⟨by simp [m2, m3], fun i k v h => m5 i k (hzip i k v h).1, fun i k v e h1 h2 =>
                  ⟨m6 i k e (hzip i k v h1).1 (by simpa using h2), m7 i v e (hzip i k v h1).2 (by simpa using h2)⟩⟩ (hz1 w) (hz2 μ)
                exact ⟨_, v1, rep μ φ q _ v (q3 _ _ _ v2)⟩
          · cases h
        · cases h
      · cases h
    · cases h
  · cases h
theorem frzVal_ok {m m' : Mem} {v : V} {p : PV} (h : frzVal m v = some (p, m')) : Lives m m' ∧
    ∀ (P : Program) (G : Nat → Option (List PV)) (w0 : Base) (μ : Ro) (φ : Nat → Phys) (w : World) (x : Value), RelM P G w0 μ φ m w → RepV P μ φ v x →
      ∃ μ', (∀ b o, μ b = some o → μ' b = some o) ∧ RelM P G w0 μ' φ m' w ∧ RepPV P μ' p x := by
  unfold frzVal at h
  split at h
  · rename_i cs
    split at h
    · rename_i ps m1 hf
      simp only [Option.some.injEq, Prod.mk.injEq] at h; obtain ⟨rfl, rfl⟩ := h
      obtain ⟨f1, f2, f3⟩ := frzSL_ok hf
      refine ⟨f1, fun P G w0 μ φ w x hM hx => ?_⟩
      cases hx with
      | @agg _ xs h1 h2 h3 =>
        have hX : ∀ (i : Nat), i < cs.length → xs[i]? = some (xs.getD i undef) := fun i hi => by
          have hlt : i < xs.size := by omega
          rw [Array.getElem?_eq_getElem hlt]; simp [Array.getD, hlt]
        obtain ⟨μ', e1, e2, e3⟩ := f3 P G w0 μ φ w (fun i => xs.getD i undef) hM fun i u hu => h2 i u _ hu (hX i (List.getElem?_eq_some_iff.1 hu).1)
        refine ⟨μ', e1, e2, .agg (by omega) (fun j q y hq hy => ?_) h3⟩
        have := e3 j q hq
        rw [hX j (by have := (List.getElem?_eq_some_iff.1 hq).1; omega)] at hy
        simp only [Option.some.injEq] at hy; subst hy; exact this
    · cases h
  · exact frzS_ok h
theorem frzVal_pure {m' : Mem} {v : V} {p : PV} (h : frzVal noMem v = some (p, m')) : ∀ (P : Program) (μ : Ro) (φ : Nat → Phys) (x : Value), RepV P μ φ v x → RepPV P μ p x := by
  unfold frzVal at h
  split at h
  · rename_i cs
    split at h
    · rename_i ps m1 hf
      simp only [Option.some.injEq, Prod.mk.injEq] at h; obtain ⟨rfl, rfl⟩ := h
      obtain ⟨f2, f3⟩ := frzSL_pure hf
      intro P μ φ x hx
      cases hx with
      | @agg _ xs h1 h2 h3 =>
        have hX : ∀ (i : Nat), i < cs.length → xs[i]? = some (xs.getD i undef) := fun i hi => by
          have hlt : i < xs.size := by omega
          rw [Array.getElem?_eq_getElem hlt]; simp [Array.getD, hlt]
        have e3 := f3 P μ φ (fun i => xs.getD i undef) fun i u hu => h2 i u _ hu (hX i (List.getElem?_eq_some_iff.1 hu).1)
        refine .agg (by omega) (fun j q y hq hy => ?_) h3
        have := e3 j q hq
        rw [hX j (by have := (List.getElem?_eq_some_iff.1 hq).1; omega)] at hy
        simp only [Option.some.injEq] at hy; subst hy; exact this
    · cases h
  · exact frzS_pure h
theorem frzValD_ok {draw : Bool} {m m' : Mem} {v : V} {p : PV} (h : frzValD draw m v = some (p, m')) : Lives m m' ∧
    (draw = true → m' = m ∧ ∀ m2 : Mem, frzValD true m2 v = some (p, m2)) ∧
    ∀ (P : Program) (G : Nat → Option (List PV)) (w0 : Base) (μ : Ro) (φ : Nat → Phys) (w : World) (x : Value), RelM P G w0 μ φ m w → RepV P μ φ v x →
      ∃ μ', (∀ b o, μ b = some o → μ' b = some o) ∧ RelM P G w0 μ' φ m' w ∧ RepPV P μ' p x := by
  unfold frzValD at h
  split at h
  · rename_i hd
    split at h
    · rename_i q m1 hf
      simp only [Option.some.injEq, Prod.mk.injEq] at h; obtain ⟨rfl, rfl⟩ := h
      exact ⟨.refl _, fun _ => ⟨rfl, fun m2 => by simp [frzValD, hf]⟩, fun P G w0 μ φ w x hM hx => ⟨μ, fun _ _ h => h, hM, frzVal_pure hf P μ φ x hx⟩⟩
    · cases h
  · rename_i hd
    obtain ⟨h1, h2⟩ := frzVal_ok h
    exact ⟨h1, fun hd' => absurd hd' hd, h2⟩

theorem sameBits_refl {ks : List Kd} : ∀ {ps : List PV}, chk ks ps = true → ∀ (n : Nat), (ps.map valOf).all (fun v => Instr.sameBits n v v) = true := by
  induction ks with
  | nil => intro ps h n; cases ps <;> simp [chk] at h; rfl
  | cons k ks ih =>
    intro ps h n
    cases ps with
    | nil => simp [chk] at h
    | cons p ps =>
      simp only [chk, Bool.and_eq_true] at h
      simp only [List.map_cons, List.all_cons, ih h.2 n, Bool.and_true]
      cases k <;> cases p <;> simp [kdIs] at h <;> simp [valOf, Instr.sameBits, (Go.MapKept.bytes_beq _ _).2]
theorem sameBits_mkVal {P : Program} {t : TypeId} {ks : List Kd} {ps : List PV} (h : chk ks ps = true) (hl : isAggT P t = false → ps.length = 1) (n : Nat) : Instr.sameBits (n + 1) (mkVal P t ps) (mkVal P t ps) = true := by
  unfold mkVal
  cases ha : isAggT P t with
  | true =>
    have := sameBits_refl h n
    simp only [if_true, Instr.sameBits, BEq.rfl, Bool.true_and]
    generalize ps.map valOf = xs at this
    induction xs with
    | nil => rfl
    | cons x r ih => simp only [List.all_cons, Bool.and_eq_true] at this; simp [this.1]; simpa using ih this.2
  | false =>
    have h1 := hl ha
    match ps, h1 with
    | [p], _ =>
      have := sameBits_refl h (n + 1)
      simpa using this

theorem xmapUpdate_ok {draw : Bool} {t : TypeId} {x key val : V} {m : Mem} {k : Mem → Foot → Option R} {r : R} (h : xmapUpdate E draw t x key val m k = some r) :
    ∃ m' ft, k m' ft = some r ∧ (draw = true → ∃ id b, m' = memSet m id b ∧ ft = [(true, id)] ∧ ∀ m2 : Mem, m2 id = m id → ∀ (R' : Type) (k' : Mem → Foot → Option R'), xmapUpdate E true t x key val m2 k' = k' (memSet m2 id b) [(true, id)]) ∧
    Lives m m' ∧ ∀ (G : Nat → Option (List PV)) (w0 : Base) (μ : Ro) (φ : Nat → Phys) (w : World) (ya yk yv : Value), RelM E.P G w0 μ φ m w → RepV E.P μ φ x ya → RepV E.P μ φ key yk → RepV E.P μ φ val yv →
      ∃ w' μ', (Instr.mapUpdate t ya yk yv).run E.P w = .ok () w' ∧ (∀ b o, μ b = some o → μ' b = some o) ∧ RelM E.P G w0 μ' φ m' w' := by
  unfold xmapUpdate at h
  split at h
  · rename_i kt et hu
    split at h
    · rename_i id
      split at h
      · rename_i v m1 hf
        obtain ⟨f1, f2, f3⟩ := frzValD_ok hf
        split at h
        · rename_i kt' es hm
          split at h
          · rename_i hkt
            subst hkt
            obtain ⟨kp, hkey, h⟩ := Option.bind_eq_some_iff.1 h
            obtain ⟨ks, k1, k2, k3⟩ := keyOf_ok hkey
            refine ⟨_, _, h, fun hd => ?_, f1.trans .set, fun G w0 μ φ w ya yk yv hM hx hk hv => ?_⟩
            · obtain ⟨rfl, f4⟩ := f2 hd
              exact ⟨id, _, rfl, rfl, fun m2 hm2 R' k' => by simp only [xmapUpdate, hu, f4 m2, hm2, hm, hkey, Option.bind_some, if_true]⟩
            · obtain ⟨μ', g1, g2, g3⟩ := f3 _ _ _ _ _ _ _ hM hv
              obtain ⟨g, en, clock, kk, hg, hh, hs, hkk, hck, hrep⟩ := g2.blk id _ hm
              rw [k1] at hkk; simp only [Option.some.injEq] at hkk; subst hkk
              have hk8 := kdsOf_kds k1
              have hkr := (k3 μ φ yk hk).mono g1
              obtain ⟨hc, hkv⟩ := keyOk_val k2 hkr
              have hE : EntOk E.P μ' kt' ks es en.toList := ⟨by simpa using hs, hck, fun i k v e h1 h2 => hrep i k v e h1 (by simpa using h2)⟩
              obtain ⟨res, r1, r2⟩ := run_findKey_kds (v := v) (z := .bad) hk8 hc w hE
              have hgo := Go.MapKept.run_getObj_map (P := E.P) hh
              have h1 : (Instr.checkKey false 10000 kt' yk).run E.P w = .ok () w := by rw [hkv]; exact run_checkKey_kds 8 kt' ks hk8 9992 w false kp.cells hc
              rw [← hkv] at r1
              have hlt : g < w.heap.size := (Array.getElem?_eq_some_iff.1 hh).1
              cases hx with
              | om hg' =>
                rw [hg] at hg'; simp only [Option.some.injEq] at hg'; subst hg'
                have fin : ∀ (o : Obj) (en' : Array MapEntry) (clock' : Nat), o = .map en' clock' → (Instr.mapUpdate t (.map (some g)) yk yv).run E.P w = .ok () { w with heap := w.heap.setIfInBounds g o } → EntOk E.P μ' kt' ks (mput kp v es) en'.toList →
                    ∃ w' μ', (Instr.mapUpdate t (.map (some g)) yk yv).run E.P w = .ok () w' ∧ (∀ b o, μ b = some o → μ' b = some o) ∧ RelM E.P G w0 μ' φ (memSet m1 id (.map kt' (mput kp v es))) w' := by
                  rintro o en' clock' rfl hr hE'
                  refine ⟨_, μ', hr, g1, g2.write hm rfl hg ⟨⟨rfl, rfl, rfl, by simp, fun k hk => by simp [Array.getElem?_setIfInBounds_ne (Nat.ne_of_gt hk)]⟩, Nat.le_refl _⟩ (by simp) (fun k hk => by simp [Array.getElem?_setIfInBounds_ne (Ne.symm hk)]) ?_ rfl (by simp [Blk.names])⟩
                  exact ⟨g, en', clock', ks, hg, by simp [hlt], by simpa using hE'.len, k1, hE'.key, fun i k v e h1 h2 => hE'.rep i k v e h1 (by simpa using h2)⟩
                cases r2 with
                | none e1 e2 e3 =>
                  have hso := Go.MapKept.run_setObj_map (P := E.P) (.map (en.push { key := yk, val := yv, born := clock }) (clock + 1)) hh
                  refine fin _ _ _ rfl (by
                    simp only [Instr.mapUpdate, Sem.run_bind, run_underlying hu, hgo, h1, r1, Result.andThen_ok]
                    exact hso) ?_
                  rw [e3]
                  have hget : ∀ (i : Nat) k' v' e, (es ++ [(kp, v)])[i]? = some (k', v') → (en.push { key := yk, val := yv, born := clock }).toList[i]? = some e → (es[i]? = some (k', v') ∧ en.toList[i]? = some e) ∨ (k' = kp ∧ v' = v ∧ e.key = yk ∧ e.val = yv) := by
                    intro i k' v' e h1 h2
                    rw [Array.toList_push, List.getElem?_append] at h2
                    rw [List.getElem?_append] at h1
                    rw [hE.len] at h2
                    split at h1
                    · rename_i hi; rw [if_pos hi] at h2; exact .inl ⟨h1, h2⟩
                    · rename_i hi
                      rw [if_neg hi] at h2
                      cases hj : i - es.length with
                      | zero => rw [hj] at h1 h2; simp at h1 h2; exact .inr ⟨h1.1.symm, h1.2.symm, by rw [← h2], by rw [← h2]⟩
                      | succ j => rw [hj] at h1; simp at h1
                  refine ⟨by simp [hs], fun i k' v' h => ?_, fun i k' v' e h1 h2 => ?_⟩
                  · rw [List.getElem?_append] at h
                    split at h
                    · exact hck i k' v' h
                    · cases hj : i - es.length with
                      | zero => rw [hj] at h; simp at h; rw [← h.1]; exact k2
                      | succ j => rw [hj] at h; simp at h
                  · rcases hget i k' v' e h1 h2 with ⟨a1, a2⟩ | ⟨rfl, rfl, a3, a4⟩
                    · exact hE.rep i k' v' e a1 a2
                    · exact ⟨by rw [a3]; exact hkr, by rw [a4]; exact g3⟩
                | @some j a u e e1 e2 e3 e4 e5 e6 =>
                  have e2' : en[j]? = some e := by simpa using e2
                  obtain ⟨hca, hva⟩ := keyOk_val (hck j a u e1) (hrep j a u e e1 e2').1
                  have hcells := peqL_eq hc hca e3
                  have hsb : Instr.sameBits 10000 e.key yk = true := by
                    rw [hva, hkv, ← hcells]
                    refine sameBits_mkVal (n := 9999) hc (fun ha => ?_)
                    rw [chk_len hc]; exact (kds_agg hk8).2.1 ha
                  have hso := Go.MapKept.run_setObj_map (P := E.P) (.map (en.modify j fun e => { e with key := yk, val := yv }) clock) hh
                  have hjl : j < en.size := (Array.getElem?_eq_some_iff.1 e2').1
                  refine fin _ _ _ rfl (by
                    simp only [Instr.mapUpdate, Sem.run_bind, run_underlying hu, hgo, h1, r1, Result.andThen_ok]
                    simp only [Nat.zero_add, e2', Option.map_some, Option.getD_some, Instr.keyThatStays, hsb, if_true, Sem.run_pure, Result.andThen_ok]
                    exact hso) ?_
                  rw [e6]
                  have hset : ∀ (i : Nat) k' v', (es.set j (kp, v))[i]? = some (k', v') → (i = j ∧ k' = kp ∧ v' = v) ∨ (i ≠ j ∧ es[i]? = some (k', v')) := by
                    intro i k' v' h
                    rw [List.getElem?_set] at h
                    split at h
                    · rename_i hij; subst hij
                      split at h
                      · simp only [Option.some.injEq, Prod.mk.injEq] at h; exact .inl ⟨rfl, h.1.symm, h.2.symm⟩
                      · cases h
                    · rename_i hij; exact .inr ⟨fun e => hij e.symm, h⟩
                  refine ⟨by simp [hs], fun i k' v' h => ?_, fun i k' v' e' h1 h2 => ?_⟩
                  · rcases hset i k' v' h with ⟨rfl, rfl, rfl⟩ | ⟨_, h⟩
                    · exact k2
                    · exact hck i k' v' h
                  · have h2' : (en.modify j fun e => { e with key := yk, val := yv })[i]? = some e' := by rw [Array.getElem?_toList] at h2; exact h2
                    rw [Array.getElem?_modify] at h2'
                    rcases hset i k' v' h1 with ⟨rfl, rfl, rfl⟩ | ⟨hne, h1⟩
                    · rw [if_pos rfl, e2'] at h2'
                      simp only [Option.map_some, Option.some.injEq] at h2'
                      subst h2'
                      exact ⟨hkr, g3⟩
                    · rw [if_neg (Ne.symm hne)] at h2'
                      exact hE.rep i k' v' e' h1 (by simpa using h2')
          · cases h
        · cases h
      · cases h
    · cases h
  · cases h

theorem makeMap_rep {P : Program} {μ : Ro} {φ : Nat → Phys} {w : World} {site : Nat} {kt : TypeId} {ks : List Kd} (hk : kdsOf P kt = some ks) (hφ : (φ site).g = some w.heap.size) : RepB P μ φ (w.alloc (.map #[] 0)) site (.map kt []) :=
  ⟨w.heap.size, #[], 0, ks, hφ, alloc_new w _, rfl, hk, by simp, by simp⟩
end
end Go.Ab
