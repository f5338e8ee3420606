/- The abstract operations are right, fifth part: operators. -/
import Derived.Test.YtnbhhepiekhbjaaGreatAbEq
set_option linter.unusedVariables false
namespace Go.Ab
open Go.RowKit (Below)

section
variable {R : Type} {E : Env}

theorem wf_tmod {k : IntKind} {x y : Int} (hx : (Lit.int k x).wf = true) : (Lit.int k (x.tmod y)).wf = true := by
  rw [wf_bool] at *
  have h0 : k.min ≤ 0 ∧ 0 ≤ k.max := by cases k <;> simp [IntKind.min, IntKind.max, IntKind.signed, IntKind.bits]
  rcases Int.le_total 0 x with h | h
  · have h1 := Int.tmod_nonneg y h
    have h2 : x.tmod y ≤ x := by
      have := Int.natAbs_tmod x y
      have h3 : x.natAbs % y.natAbs ≤ x.natAbs := Nat.mod_le _ _
      omega
    omega
  · have h1 : x.tmod y = -((-x).tmod y) := by rw [Int.neg_tmod]; omega
    have h2 := Int.tmod_nonneg y (show 0 ≤ -x by omega)
    have h3 : (-x).tmod y ≤ -x := by
      have := Int.natAbs_tmod (-x) y
      have h3 : (-x).natAbs % y.natAbs ≤ (-x).natAbs := Nat.mod_le _ _
      omega
    omega
theorem wf_fdiv {k : IntKind} {x : Int} (n : Nat) (hx : (Lit.int k x).wf = true) : (Lit.int k (x.fdiv (2 ^ n))).wf = true := by
  rw [wf_bool] at *
  have h0 : k.min ≤ 0 ∧ 0 ≤ k.max := by cases k <;> simp [IntKind.min, IntKind.max, IntKind.signed, IntKind.bits]
  have hp : (0 : Int) < 2 ^ n := Int.pow_pos (by omega)
  rw [Int.fdiv_eq_ediv_of_nonneg _ (by omega)]
  rcases Int.le_total 0 x with h | h
  · have h1 := Int.ediv_nonneg h (Int.le_of_lt hp)
    have h2 := Int.ediv_le_self (2 ^ n) h
    omega
  · have h1 : x / 2 ^ n ≤ 0 := Int.ediv_nonpos_of_nonpos_of_neg h hp
    have h2 : x ≤ x / 2 ^ n := by
      rw [Int.le_ediv_iff_mul_le hp]
      have : x * 2 ^ n ≤ x * 1 := Int.mul_le_mul_of_nonpos_left h (by omega)
      omega
    omega

theorem mkVal_agg {P : Program} {t : TypeId} {ps : List PV} (ha : isAggT P t = true) : mkVal P t ps = .agg (ps.map valOf).toArray := by simp [mkVal, ha]

def P_eqGuard (P : Program) (t : TypeId) : Bool := P.eqGuardType P.depth t
def runBin (op : BinOp) (t : TypeId) (ox oy : Operand) (x y : Value) : Sem Value := do eqGuard op t ox oy x y; binOp op t x y

theorem run_eql_of {P : Program} {w : World} {t : TypeId} {x y : Value} {b : Bool} (hb : binOp .eql t x y = (do pure (.bool (← Op.equal t x y)))) (h : (Op.equalIn 10000 t x y).run P w = .ok b w) : (binOp .eql t x y).run P w = .ok (.bool b) w := by
  rw [hb]
  simp only [Op.equal, Op.maxDepth, Sem.run_bind, h, Result.andThen_ok, Sem.run_pure]
theorem run_neq_of {P : Program} {w : World} {t : TypeId} {x y : Value} {b : Bool} (hb : binOp .neq t x y = (do pure (.bool (!(← Op.equal t x y))))) (h : (Op.equalIn 10000 t x y).run P w = .ok b w) : (binOp .neq t x y).run P w = .ok (.bool (!b)) w := by
  rw [hb]
  simp only [Op.equal, Op.maxDepth, Sem.run_bind, h, Result.andThen_ok, Sem.run_pure]
theorem run_runBin {P : Program} {w : World} {op : BinOp} {t : TypeId} {ox oy : Operand} {x y z : Value} (h1 : (eqGuard op t ox oy x y).run P w = .ok () w) (h2 : (binOp op t x y).run P w = .ok z w) : (runBin op t ox oy x y).run P w = .ok z w := by
  simp only [runBin, Sem.run_bind, h1, h2, Result.andThen_ok]
theorem run_eqPtr {P : Program} {w : World} {t e : TypeId} (hu : P.underlying t = some (.pointer e)) (a : Option Addr) : (Op.equalIn 10000 t (.pointer a) (.pointer none)).run P w = .ok a.isNone w := by
  show (Op.equalIn (9999 + 1) t (.pointer a) (.pointer none)).run P w = .ok a.isNone w
  cases a <;> (unfold Op.equalIn; simp only [Sem.run_bind, run_underlying hu, Result.andThen_ok]; rfl)

theorem xbin_ok {op : BinOp} {t : TypeId} {a b : V} {k : PV → Option R} {r : R} (h : xbin E op t a b k = some r) :
    ∃ q, (∀ (R' : Type) (k' : PV → Option R'), xbin E op t a b k' = k' q) ∧ k q = some r ∧
    ∀ (μ : Ro) (φ : Nat → Phys) (w : World) (ox oy : Operand) (x y : Value), RepV E.P μ φ a x → RepV E.P μ φ b y → ∃ z, (runBin op t ox oy x y).run E.P w = .ok z w ∧ RepPV E.P μ q z := by
  unfold xbin at h
  split at h
  · rename_i q x q' y
    have ints : ∀ (μ : Ro) (φ : Nat → Phys) (u v : Value), RepV E.P μ φ (.pv (.int q x)) u → RepV E.P μ φ (.pv (.int q' y)) v → u = .int q x ∧ v = .int q' y ∧ (Lit.int q x).wf = true := by
      intro μ φ u v hu hv
      cases hu with | pv hu => cases hu with | int h1 => cases hv with | pv hv => cases hv with | int h2 => exact ⟨rfl, rfl, h1⟩
    cases op
    case shl =>
      simp only at h
      split at h
      · cases h
      · rename_i hy
        refine ⟨_, fun R' k' => by simp [xbin, hy], h, fun μ φ w ox oy u v hu hv => ?_⟩
        obtain ⟨rfl, rfl, _⟩ := ints μ φ u v hu hv
        exact ⟨_, by simp [runBin, eqGuard, binOp, Op.shift, hy], .int (wf_wrap _ _)⟩
    case shr =>
      simp only at h
      split at h
      · cases h
      · rename_i hy
        refine ⟨_, fun R' k' => by simp [xbin, hy], h, fun μ φ w ox oy u v hu hv => ?_⟩
        obtain ⟨rfl, rfl, hw⟩ := ints μ φ u v hu hv
        exact ⟨_, by simp [runBin, eqGuard, binOp, Op.shift, hy], .int (wf_fdiv _ hw)⟩
    case quo =>
      simp only at h
      split at h
      · rename_i hq; subst hq
        split at h
        · cases h
        · rename_i hy
          refine ⟨_, fun R' k' => by simp [xbin, hy], h, fun μ φ w ox oy u v hu hv => ?_⟩
          obtain ⟨rfl, rfl, _⟩ := ints μ φ u v hu hv
          exact ⟨_, by simp [runBin, eqGuard, binOp, Op.intDiv, hy], .int (wf_wrap _ _)⟩
      · cases h
    case rem =>
      simp only at h
      split at h
      · rename_i hq; subst hq
        split at h
        · cases h
        · rename_i hy
          refine ⟨_, fun R' k' => by simp [xbin, hy], h, fun μ φ w ox oy u v hu hv => ?_⟩
          obtain ⟨rfl, rfl, hw⟩ := ints μ φ u v hu hv
          exact ⟨_, by simp [runBin, eqGuard, binOp, Op.intDiv, hy], .int (wf_tmod hw)⟩
      · cases h
    case eql | neq | lss | leq | gtr | geq =>
      simp only at h
      split at h
      · rename_i hq; subst hq
        refine ⟨_, fun R' k' => by simp [xbin], h, fun μ φ w ox oy u v hu hv => ?_⟩
        obtain ⟨rfl, rfl, _⟩ := ints μ φ u v hu hv
        refine ⟨_, run_runBin (by rw [eqGuard_at_int]; rfl) ?_, .bool⟩
        first | rw [binOp_eql] | rw [binOp_neq] | rw [binOp_lss] | rw [binOp_leq] | rw [binOp_gtr] | rw [binOp_geq]
        rfl
      · cases h
    all_goals
      simp only at h
      split at h
      · rename_i hq; subst hq
        refine ⟨_, fun R' k' => by simp [xbin], h, fun μ φ w ox oy u v hu hv => ?_⟩
        obtain ⟨rfl, rfl, _⟩ := ints μ φ u v hu hv
        refine ⟨_, run_runBin (by rw [eqGuard_at_int]; rfl) ?_, .int (wf_wrap _ _)⟩
        first | rw [binOp_add] | rw [binOp_sub] | rw [binOp_mul] | rw [binOp_and] | rw [binOp_or] | rw [binOp_xor] | rw [binOp_andNot]
        rfl
      · cases h
  · rename_i x y
    have strs : ∀ (μ : Ro) (φ : Nat → Phys) (u v : Value), RepV E.P μ φ (.pv (.str x)) u → RepV E.P μ φ (.pv (.str y)) v → u = .string ⟨x.toArray⟩ ∧ v = .string ⟨y.toArray⟩ := by
      intro μ φ u v hu hv
      cases hu with | pv hu => cases hu with | str h1 => cases hv with | pv hv => cases hv with | str h2 => exact ⟨rfl, rfl⟩
    cases op
    case add =>
      simp only at h
      split at h
      · rename_i hroom
        have hy : ¬ ((x.length + y.length : Nat) : Int) > IntKind.i64.max := by have := E.lp.room_ok _ hroom; omega
        refine ⟨_, fun R' k' => by simp only [xbin]; rw [if_pos hroom], h, fun μ φ w ox oy u v hu hv => ?_⟩
        obtain ⟨rfl, rfl⟩ := strs μ φ u v hu hv
        refine ⟨.string ⟨(x ++ y).toArray⟩, ?_, .str ?_⟩
        · simp only [runBin, eqGuard, binOp, Op.stringOp, Sem.run_bind]
          have e : (⟨x.toArray⟩ ++ ⟨y.toArray⟩ : ByteArray) = ⟨(x ++ y).toArray⟩ := by
            apply ByteArray.ext
            simp
          simp only [size_str, e]
          rw [if_neg hy]
          simp
        · simp only [maxLen]
          simp only [IntKind.max_i64] at hy
          simp; omega
      · cases h
    case eql | neq | lss | leq | gtr | geq =>
      simp only at h
      refine ⟨_, fun R' k' => by simp only [xbin], h, fun μ φ w ox oy u v hu hv => ?_⟩
      obtain ⟨rfl, rfl⟩ := strs μ φ u v hu hv
      refine ⟨_, run_runBin (by rw [eqGuard_at_string]; rfl) ?_, .bool⟩
      simp only [binOp, Op.stringOp, ByteArray.toList_eq]
      rfl
    all_goals (simp only at h; cases h)
  · rename_i x y
    have bools : ∀ (μ : Ro) (φ : Nat → Phys) (u v : Value), RepV E.P μ φ (.pv (.bool x)) u → RepV E.P μ φ (.pv (.bool y)) v → u = .bool x ∧ v = .bool y := by
      intro μ φ u v hu hv
      cases hu with | pv hu => cases hu with | bool => cases hv with | pv hv => cases hv with | bool => exact ⟨rfl, rfl⟩
    split at h
    · rename_i hu'
      refine ⟨_, fun R' k' => by simp only [xbin, hu'], h, fun μ φ w ox oy u v hu hv => ?_⟩
      obtain ⟨rfl, rfl⟩ := bools μ φ u v hu hv
      exact ⟨_, run_runBin (by rw [eqGuard_at_bool]; rfl) (run_eql_of rfl (run_equalIn_bool w _ _ _ _ hu')), .bool⟩
    · rename_i hu'
      refine ⟨_, fun R' k' => by simp only [xbin, hu'], h, fun μ φ w ox oy u v hu hv => ?_⟩
      obtain ⟨rfl, rfl⟩ := bools μ φ u v hu hv
      exact ⟨_, run_runBin (by rw [eqGuard_at_bool]; rfl) (run_neq_of rfl (run_equalIn_bool w _ _ _ _ hu')), .bool⟩
    · cases h
  · split at h
    · rename_i hu'
      refine ⟨_, fun R' k' => by simp only [xbin, hu'], h, fun μ φ w ox oy u v hu hv => ?_⟩
      cases hu with | pv hu => cases hu; cases hv with | pv hv => cases hv; exact ⟨_, run_runBin (by rw [eqGuard_at_pointer]; rfl) (run_eql_of rfl (run_eqPtr hu' none)), .bool⟩
    · rename_i hu'
      refine ⟨_, fun R' k' => by simp only [xbin, hu'], h, fun μ φ w ox oy u v hu hv => ?_⟩
      cases hu with | pv hu => cases hu; cases hv with | pv hv => cases hv; exact ⟨_, run_runBin (by rw [eqGuard_at_pointer]; rfl) (run_neq_of rfl (run_eqPtr hu' none)), .bool⟩
    · cases h
  · split at h
    · rename_i hu'
      refine ⟨_, fun R' k' => by simp only [xbin, hu'], h, fun μ φ w ox oy u v hu hv => ?_⟩
      cases hu with | pv hu => cases hu; cases hv with | pv hv => cases hv; exact ⟨_, run_runBin (by rw [eqGuard_at_pointer]; rfl) (run_eql_of rfl (run_eqPtr hu' _)), .bool⟩
    · rename_i hu'
      refine ⟨_, fun R' k' => by simp only [xbin, hu'], h, fun μ φ w ox oy u v hu hv => ?_⟩
      cases hu with | pv hu => cases hu; cases hv with | pv hv => cases hv; exact ⟨_, run_runBin (by rw [eqGuard_at_pointer]; rfl) (run_neq_of rfl (run_eqPtr hu' _)), .bool⟩
    · cases h
  · split at h
    · rename_i hu'
      refine ⟨_, fun R' k' => by simp only [xbin, hu'], h, fun μ φ w ox oy u v hu hv => ?_⟩
      cases hu with | op hg => cases hv with | pv hv => cases hv; exact ⟨_, run_runBin (by rw [eqGuard_at_pointer]; rfl) (run_eql_of rfl (run_eqPtr hu' _)), .bool⟩
    · rename_i hu'
      refine ⟨_, fun R' k' => by simp only [xbin, hu'], h, fun μ φ w ox oy u v hu hv => ?_⟩
      cases hu with | op hg => cases hv with | pv hv => cases hv; exact ⟨_, run_runBin (by rw [eqGuard_at_pointer]; rfl) (run_neq_of rfl (run_eqPtr hu' _)), .bool⟩
    · cases h
  · split at h
    · rename_i hu'
      refine ⟨_, fun R' k' => by simp only [xbin, hu'], h, fun μ φ w ox oy u v hu hv => ?_⟩
      cases hu with | oe hg => cases hv with | pv hv => cases hv; exact ⟨_, run_runBin (by rw [eqGuard_at_pointer]; rfl) (run_eql_of rfl (run_eqPtr hu' _)), .bool⟩
    · rename_i hu'
      refine ⟨_, fun R' k' => by simp only [xbin, hu'], h, fun μ φ w ox oy u v hu hv => ?_⟩
      cases hu with | oe hg => cases hv with | pv hv => cases hv; exact ⟨_, run_runBin (by rw [eqGuard_at_pointer]; rfl) (run_neq_of rfl (run_eqPtr hu' _)), .bool⟩
    · cases h
  · rename_i n1 n2 n3 n4 n5 n6 n7
    split at h
    · rename_i ha
      split at h
      · rename_i ks as bs hks has hbs
        split at h
        · rename_i ps qs hps hqs
          split at h
          · rename_i hc
            have hE : P_eqGuard E.P t = false ∧ kds E.P 8 t = some ks := by
              unfold kdsOf at hks
              split at hks
              · cases hks
              · rename_i hg; exact ⟨by simpa [P_eqGuard] using hg, hks⟩
            have key : ∀ (μ : Ro) (φ : Nat → Phys) (w : World) (x y : Value), RepV E.P μ φ a x → RepV E.P μ φ b y →
                ∃ xs ys, x = .agg xs ∧ y = .agg ys ∧ (Op.equalIn 10000 t x y).run E.P w = .ok (peqL ps qs) w := by
              intro μ φ w x y hx hy
              obtain ⟨xs, rfl, g1, g2, g3⟩ := (aggCells_ok has).2 _ _ _ _ hx
              obtain ⟨ys, rfl, g4, g5, g6⟩ := (aggCells_ok hbs).2 _ _ _ _ hy
              obtain ⟨l1, l2⟩ := frzs_ok hps
              obtain ⟨l3, l4⟩ := frzs_ok hqs
              have e1 := vals_of_cells (P := E.P) (μ := μ) (xs := xs) hc.1 (by omega) (fun i p z hi hz => by
                obtain ⟨v, hv, hg⟩ := l2 i p hi
                exact frz_pure 1 hg (g2 i v z hv hz))
              have e2 := vals_of_cells (P := E.P) (μ := μ) (xs := ys) hc.2 (by omega) (fun i p z hi hz => by
                obtain ⟨v, hv, hg⟩ := l4 i p hi
                exact frz_pure 1 hg (g5 i v z hv hz))
              refine ⟨xs, ys, rfl, rfl, ?_⟩
              have := run_equalIn_kds 8 t ks hE.2 9992 w ps qs hc.1 hc.2
              rw [mkVal_agg ha, mkVal_agg ha, ← e1, ← e2] at this
              exact this
            have nat1 : ∀ (R' : Type) (k' : PV → Option R'), xbin E .eql t a b k' = k' (.bool (peqL ps qs)) := by
              intro R' k'
              unfold xbin
              split
              · exact (n1 _ _ _ _ rfl rfl).elim
              · exact (n2 _ _ rfl rfl).elim
              · exact (n3 _ _ rfl rfl).elim
              · exact (n4 rfl rfl).elim
              · exact (n5 _ rfl rfl).elim
              · exact (n6 _ _ rfl rfl).elim
              · exact (n7 _ _ _ rfl rfl).elim
              · rw [if_pos ha, hks, has, hbs]
                simp only [hps, hqs]
                rw [if_pos hc]
            have nat2 : ∀ (R' : Type) (k' : PV → Option R'), xbin E .neq t a b k' = k' (.bool (!(peqL ps qs))) := by
              intro R' k'
              unfold xbin
              split
              · exact (n1 _ _ _ _ rfl rfl).elim
              · exact (n2 _ _ rfl rfl).elim
              · exact (n3 _ _ rfl rfl).elim
              · exact (n4 rfl rfl).elim
              · exact (n5 _ rfl rfl).elim
              · exact (n6 _ _ rfl rfl).elim
              · exact (n7 _ _ _ rfl rfl).elim
              · rw [if_pos ha, hks, has, hbs]
                simp only [hps, hqs]
                rw [if_pos hc]
            cases op
            case eql =>
              refine ⟨_, fun R' k' => nat1 R' k', h, fun μ φ w ox oy x y hx hy => ?_⟩
              obtain ⟨xs, ys, rfl, rfl, hr⟩ := key μ φ w x y hx hy
              exact ⟨_, run_runBin (run_eqGuard_agg w _ _ _ _ _ _ hE.1) (run_eql_of rfl hr), .bool⟩
            case neq =>
              refine ⟨_, fun R' k' => nat2 R' k', h, fun μ φ w ox oy x y hx hy => ?_⟩
              obtain ⟨xs, ys, rfl, rfl, hr⟩ := key μ φ w x y hx hy
              exact ⟨_, run_runBin (run_eqGuard_agg w _ _ _ _ _ _ hE.1) (run_neq_of rfl hr), .bool⟩
            all_goals (simp only at h; cases h)
          · cases h
        · cases h
      · cases h
    · cases h

theorem xun_ok {op : UnOp} {a : V} {k : PV → Option R} {r : R} (h : xun op a k = some r) :
    ∃ q, (∀ (R' : Type) (k' : PV → Option R'), xun op a k' = k' q) ∧ k q = some r ∧
    ∀ (P : Program) (μ : Ro) (φ : Nat → Phys) (w : World) (x : Value), RepV P μ φ a x → ∃ z, (Op.unary op x).run P w = .ok z w ∧ RepPV P μ q z := by
  unfold xun at h
  split at h
  · refine ⟨_, fun R' k' => rfl, h, fun P μ φ w x hx => ?_⟩
    cases hx with | pv hx => cases hx; exact ⟨_, rfl, .bool⟩
  · refine ⟨_, fun R' k' => rfl, h, fun P μ φ w x hx => ?_⟩
    cases hx with | pv hx => cases hx; exact ⟨_, rfl, .int (wf_wrap _ _)⟩
  · refine ⟨_, fun R' k' => rfl, h, fun P μ φ w x hx => ?_⟩
    cases hx with | pv hx => cases hx; exact ⟨_, rfl, .int (wf_wrap _ _)⟩
  · cases h
theorem wrap_wf {k : IntKind} {n : Int} (h : (Lit.int k n).wf = true) : k.wrap n = n := by
  rw [wf_bool] at h
  cases k <;> simp only [IntKind.wrap, IntKind.min, IntKind.max, IntKind.signed, IntKind.bits] at * <;> simp at * <;> (try split) <;> omega
theorem xconv_ok {s d : TypeId} {a : V} {k : PV → Option R} {r : R} (h : xconv E s d a k = some r) :
    ∃ q, (∀ (R' : Type) (k' : PV → Option R'), xconv E s d a k' = k' q) ∧ k q = some r ∧
    ∀ (μ : Ro) (φ : Nat → Phys) (w : World) (x : Value), RepV E.P μ φ a x → ∃ z, (convert s d x).run E.P w = .ok z w ∧ RepPV E.P μ q z := by
  unfold xconv at h
  split at h
  · rename_i q q' q'' n hs hd
    split at h
    · rename_i e1; subst e1
      split at h
      · rename_i e2; subst e2
        refine ⟨_, fun R' k' => by simp [xconv, hs, hd], h, fun μ φ w x hx => ?_⟩
        cases hx with | pv hx => cases hx with | int hw => exact ⟨_, by simp [convert, run_underlying hs, run_underlying hd, Conv.intToInt, wrap_wf hw], .int hw⟩
      · rename_i e2
        refine ⟨_, fun R' k' => by simp [xconv, hs, hd, e2], h, fun μ φ w x hx => ?_⟩
        cases hx with | pv hx => cases hx with | int hw => exact ⟨_, by simp [convert, run_underlying hs, run_underlying hd, Conv.intToInt], .int (wf_wrap _ _)⟩
    · cases h
  · rename_i hs hd
    refine ⟨_, fun R' k' => by simp [xconv, hs, hd], h, fun μ φ w x hx => ?_⟩
    cases hx with | pv hx => cases hx with | str hl => exact ⟨_, by simp [convert, run_underlying hs, run_underlying hd], .str hl⟩
  · cases h
theorem min2P_ok {a b : V} {k : PV → Option R} {r : R} (h : min2P a b k = some r) :
    ∃ q, (∀ (R' : Type) (k' : PV → Option R'), min2P a b k' = k' q) ∧ k q = some r ∧
    ∀ (P : Program) (μ : Ro) (φ : Nat → Phys) (w : World) (x y : Value), RepV P μ φ a x → RepV P μ φ b y → ∃ z, (Builtin.min2 x y).run P w = .ok z w ∧ RepPV P μ q z := by
  unfold min2P at h
  split at h
  · split at h
    · rename_i e; subst e
      refine ⟨_, fun R' k' => by simp [min2P], h, fun P μ φ w x y hx hy => ?_⟩
      cases hx with | pv hx => cases hx with | int h1 => cases hy with | pv hy => cases hy with | int h2 => exact ⟨_, rfl, by split <;> exact .int (by assumption)⟩
    · cases h
  · cases h
theorem max2P_ok {a b : V} {k : PV → Option R} {r : R} (h : max2P a b k = some r) :
    ∃ q, (∀ (R' : Type) (k' : PV → Option R'), max2P a b k' = k' q) ∧ k q = some r ∧
    ∀ (P : Program) (μ : Ro) (φ : Nat → Phys) (w : World) (x y : Value), RepV P μ φ a x → RepV P μ φ b y → ∃ z, (Builtin.max2 x y).run P w = .ok z w ∧ RepPV P μ q z := by
  unfold max2P at h
  split at h
  · split at h
    · rename_i e; subst e
      refine ⟨_, fun R' k' => by simp [max2P], h, fun P μ φ w x y hx hy => ?_⟩
      cases hx with | pv hx => cases hx with | int h1 => cases hy with | pv hy => cases hy with | int h2 => exact ⟨_, rfl, by split <;> exact .int (by assumption)⟩
    · cases h
  · cases h
theorem max4P_ok {a b c d : V} {k : PV → Option R} {r : R} (h : max4P a b c d k = some r) :
    ∃ q, (∀ (R' : Type) (k' : PV → Option R'), max4P a b c d k' = k' q) ∧ k q = some r ∧
    ∀ (P : Program) (μ : Ro) (φ : Nat → Phys) (w : World) (x y z u : Value), RepV P μ φ a x → RepV P μ φ b y → RepV P μ φ c z → RepV P μ φ d u →
      ∃ v1 v2 v3, (Builtin.max2 x y).run P w = .ok v1 w ∧ (Builtin.max2 v1 z).run P w = .ok v2 w ∧ (Builtin.max2 v2 u).run P w = .ok v3 w ∧ RepPV P μ q v3 := by
  unfold max4P at h
  obtain ⟨q1, a1, h, b1⟩ := max2P_ok h
  obtain ⟨q2, a2, h, b2⟩ := max2P_ok h
  obtain ⟨q3, a3, h, b3⟩ := max2P_ok h
  refine ⟨q3, fun R' k' => by unfold max4P; rw [a1, a2, a3], h, fun P μ φ w x y z u hx hy hz hu => ?_⟩
  obtain ⟨v1, c1, d1⟩ := b1 P μ φ w x y hx hy
  obtain ⟨v2, c2, d2⟩ := b2 P μ φ w v1 z (.pv d1) hz
  obtain ⟨v3, c3, d3⟩ := b3 P μ φ w v2 u (.pv d2) hu
  exact ⟨v1, v2, v3, c1, c2, c3, d3⟩
end
end Go.Ab
