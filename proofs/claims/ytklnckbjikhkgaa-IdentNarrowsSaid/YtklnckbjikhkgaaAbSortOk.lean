/- The sort in place is as it says: from the kit's contract of slices.SortFunc. -/
import Derived.Test.YtklnckbjikhkgaaAbSort
import Derived.Shelf.SlSortCmp.NoneTotal
namespace Go.Ab
open Go.Proofs Go.Shelf
set_option maxRecDepth 100000

section
variable {P : Program} {G : Nat → Option (List PV)} {w0 : Base} {μ : Ro} {φ : Nat → Phys} {m : Mem} {w w' : World}

theorem bel_grow (h : Bel w.heap.size w w') : ∃ q os', w' = Go.Sort.grow (w.drewN q) os' := by
  refine ⟨w'.drawn - w.drawn, w'.heap.extract w.heap.size w'.heap.size, ?_⟩
  have hd := h.drawn
  have hs := h.size
  obtain ⟨h1, t1, d1, o1, u1⟩ := w
  obtain ⟨h2, t2, d2, o2, u2⟩ := w'
  have e1 := h.os
  have e2 := h.tape
  have e3 := h.output
  have e4 := h.block
  simp only at hd hs e1 e2 e3 e4
  subst e1; subst e2; subst e3
  unfold Go.Sort.grow World.drewN
  simp only [World.mk.injEq, and_true, true_and]
  refine ⟨?_, by omega⟩
  apply Array.ext
  · simp; omega
  · intro i hi1 hi2
    rw [Array.getElem_append]
    split
    · rename_i hlt
      have := e4 i hlt
      rw [Array.getElem?_eq_getElem hi1, Array.getElem?_eq_getElem hlt] at this
      simpa using this
    · rename_i hge
      simp only [Array.getElem_extract]
      congr 1
      omega

theorem RelM.later (hM : RelM P G w0 μ φ m w) (hb : Bel w.heap.size w w') : RelM P G w0 μ φ m w' := by
  refine ⟨hM.below.trans (hb.mono hM.below.size), fun b o h => ?_, hM.glob, fun id b h => ?_, hM.own, hM.inj, hM.liveB, hM.base⟩
  · have := hM.ro b o h
    rw [hb.block b (Array.getElem?_eq_some_iff.1 this).1]; exact this
  · have hR := hM.blk id b h
    exact hR.stable (fun _ _ => rfl) rfl (fun _ _ h => h) (fun g hg => hb.block g (hR.glt hg))

/-- the world in which the row holds other elements -/
theorem RelM.row {α : Type} [Inhabited α] (enc : α → Value) (val : α → Int) (henc : ∀ x, enc x = .int .i64 (val x)) (hwf : ∀ x, (Lit.int .i64 (val x)).wf = true) (hM : RelM P G w0 μ φ m w) {id g : Nat} {et : TypeId} {es : List PV}
    (hm : m id = some (.arr 1 et es)) (hg : (φ id).g = some g) (mm : Nat) (os : Array Obj) (dk : Array α) (hd : dk.size = es.length) :
    RelM P G w0 μ φ (memSet m id (.arr 1 et (ints (dk.toList.map val)))) (sortWorld enc w g 0 mm dk os) := by
  have hA := hM.blk id _ hm
  have hA : RepArr P μ φ w id 1 et es := hA
  obtain ⟨a1, a2, a3, a4, a5, a6, a7⟩ := hA
  rw [hg] at a7
  obtain ⟨c, c1, c2, c3, c4, c5⟩ := a7
  have hglt : g < w.heap.size := (Array.getElem?_eq_some_iff.1 c1).1
  have hheap : ∀ k, (Go.Sort.putRow enc (Go.Sort.ahead w mm) g 0 dk).heap[k]? = if k = g then some (.cells (Go.Sort.putCells enc 0 dk c) et (0, 0)) else w.heap[k]? := fun k => by
    unfold Go.Sort.putRow Go.Sort.mapBlock Go.Sort.ahead
    simp only [Array.getElem?_modify]
    by_cases e : g = k
    · subst e
      simp [c1, Go.Sort.onCells]
    · rw [if_neg e, if_neg fun h => e h.symm]
  have hcs : (Go.Sort.putCells enc 0 dk c).size = c.size := by simp [Go.Sort.putCells]
  have hcell : ∀ k, k < dk.size → (Go.Sort.putCells enc 0 dk c)[k]? = some (enc dk[k]!) := fun k hk => by
    unfold Go.Sort.putCells
    rw [Array.getElem?_mapIdx]
    have hkc : k < c.size := by rw [c2]; omega
    rw [Array.getElem?_eq_getElem hkc]
    simp [hk]
  have hlen : (ints (dk.toList.map val)).length = es.length := by simp [ints, hd]
  have hget : ∀ (i : Nat) e, (ints (dk.toList.map val))[i]? = some e → i < dk.size ∧ e = .int .i64 (val dk[i]!) := fun i e he => by
    simp only [ints, List.map_map, List.getElem?_map, Option.map_eq_some_iff] at he
    obtain ⟨x, hx, rfl⟩ := he
    have hi : i < dk.size := by have := (List.getElem?_eq_some_iff.1 hx).1; simpa using this
    refine ⟨hi, ?_⟩
    have : dk[i]! = x := by
      rw [getElem!_pos dk i hi]
      simpa [hi] using hx
    rw [this]; rfl
  have h1 : RelM P G w0 μ φ (memSet m id (.arr 1 et (ints (dk.toList.map val)))) (Go.Sort.putRow enc (Go.Sort.ahead w mm) g 0 dk) := by
    refine hM.write hm rfl hg ⟨⟨rfl, rfl, rfl, ?_, fun k hk => ?_⟩, ?_⟩ ?_ (fun k hk => ?_) ?_ rfl (by simp [Blk.names])
    · simp [Go.Sort.putRow, Go.Sort.mapBlock, Go.Sort.ahead]
    · rw [hheap k, if_neg (by omega)]
    · simp [Go.Sort.putRow, Go.Sort.mapBlock, Go.Sort.ahead]
    · simp [Go.Sort.putRow, Go.Sort.mapBlock, Go.Sort.ahead]
    · rw [hheap k, if_neg hk]
    · show RepArr P μ φ _ id 1 et _
      refine ⟨by rw [a1, hlen], a2, a3, a4, fun i e he => ?_, a6, ?_⟩
      · obtain ⟨_, rfl⟩ := hget i e he; rfl
      · rw [hg]
        refine ⟨_, by rw [hheap g, if_pos rfl], by rw [hcs]; exact c2, by rw [hlen]; exact c3, fun i e j p x he hp hx => ?_, fun i x hi hx => ?_⟩
        · obtain ⟨hi, rfl⟩ := hget i e he
          have hj : j = 0 ∧ p = .int .i64 (val dk[i]!) := by
            cases j with
            | zero => simp [PV.cells] at hp; exact ⟨rfl, hp.symm⟩
            | succ j => simp [PV.cells] at hp
          obtain ⟨rfl, rfl⟩ := hj
          rw [Nat.mul_one, Nat.add_zero, hcell i hi] at hx
          simp only [Option.some.injEq] at hx; subst hx
          rw [henc]
          exact .int (hwf _)
        · rw [hlen, Nat.mul_one] at hi
          rw [hcell i (by omega)] at hx
          simp only [Option.some.injEq] at hx; subst hx
          rw [henc]; rfl
  refine h1.later ?_
  refine ⟨⟨rfl, rfl, rfl, ?_, fun k hk => ?_⟩, Nat.le_refl _⟩
  · simp [sortWorld, Go.Sort.grow]
  · unfold sortWorld Go.Sort.grow
    rw [Array.getElem?_append_left hk]
end

theorem memSet_self {m : Mem} {id : Nat} {b : Blk} (h : m id = some b) : memSet m id b = m := by
  funext j
  by_cases e : j = id
  · subst e; rw [memSet_same, h]
  · rw [memSet_ne e]

/-- the sort, from the kit's contract -/
theorem sortHook_ok {P : Program} {G : Nat → Option (List PV)} {ρr : Ren} (L : SlLaysF.n6 P ρr) {gs : FuncId} (hgs : ρr.f 6 = gs) (hsfn : ∃ fn c, P.funcs[gs]? = some fn ∧ fn.body = some c ∧ (fn.name == "runtime.NumGoroutine") = false)
    {clo : FuncId → Option (List PV → Option PV)} (hclo : ∀ g M, clo g = some M → SoundF P G g M) {R : Type} {args : List V} {f : Fr} {m : Mem} {k : V → Fr → Mem → Option R} {r : R} (h : sortHook clo R args f m k = some r) : InlAll P G gs args f m k r := by
  unfold sortHook at h
  split at h
  · rename_i id gc caps
    split at h
    · rename_i sz et es hm
      split at h
      · rename_i M hM
        split at h
        · rename_i hsz
          obtain ⟨rfl, hroom⟩ := hsz
          obtain ⟨es', hs, hk⟩ := Option.bind_eq_some_iff.1 h
          obtain ⟨ns, ns', cf, e1, e2, hf⟩ := sortS_ok hs
          obtain ⟨⟨fc, cc, fc1, fc2, fc3⟩, hMs⟩ := hclo gc M hM
          refine ⟨hsfn, fun w0 μ φ ρ w xs hR hF hlen hrep hlive => ?_⟩
          have hx0 : ∃ x0 x1, xs = #[x0, x1] := by
            obtain ⟨l⟩ := xs
            match l, hlen with
            | [x0, x1], _ => exact ⟨x0, x1, rfl⟩
            | [], h => simp at h
            | [_], h => simp at h
            | _ :: _ :: _ :: _, h => simp at h
          obtain ⟨x0, x1, rfl⟩ := hx0
          have r0 := hrep 0 _ x0 rfl rfl
          have r1 := hrep 1 _ x1 rfl rfl
          have hA : RepArr P μ φ w id 1 et es := hR.blk id _ hm
          -- no element
          have nothing : es = [] → ∀ p c, x0 = .slice p 0 c → Calls P gs #[x0, x1] w fun e w' => ∃ v f' m' y μ' φ', k v f' m' = some r ∧ e = .returned y ∧ RelM P G w0 μ' φ' m' w' ∧ FrOk P μ' φ' m' f' ρ ∧ RepV P μ' φ' v y ∧ ∀ id, v.has id = true → (m' id).isSome = true := by
            intro he p c hx
            subst hx
            have hns : ns = [] := by
              have : ints ns = [] := by rw [← e1]; exact he
              simpa [ints] using this
            have hns' : ns' = [] := by have := hf.perm; rw [hns] at this; exact List.Perm.eq_nil this
            rw [e2, hns'] at hk
            have hme : memSet m id (.arr 1 et (ints [])) = m := memSet_self (by rw [hm, he]; rfl)
            rw [hme] at hk
            rw [← hgs]
            refine (AnyF.slices_SortFunc_none { L with } p c x1 w).mono ?_
            rintro e w' ⟨rfl, rfl⟩
            exact ⟨_, _, _, _, μ, φ, hk, rfl, hR, hF, .tup rfl (by simp), fun id hid => by simp [V.has, hasL] at hid⟩
          cases r0 with
          | osN hg =>
            obtain ⟨a1, a2, a3, a4, a5, a6, a7⟩ := hA
            rw [hg] at a7
            exact nothing a7.1 _ _ rfl
          | @os _ g hg =>
            have hA' := hA
            obtain ⟨a1, a2, a3, a4, a5, a6, a7⟩ := hA
            rw [hg] at a7
            obtain ⟨c, c1, c2, c3, c4, c5⟩ := a7
            by_cases hes : es = []
            · refine nothing hes (some ⟨g, 0, none⟩) (φ id).cap ?_
              rw [a1, hes]; rfl
            have hne : ns ≠ [] := fun h => hes (by rw [e1, h]; rfl)
            obtain ⟨n0, hn0⟩ := List.exists_mem_of_ne_nil ns hne
            cases r1 with
            | @fn _ _ cb hcb1 hcb2 =>
              let α := { n : Int // n ∈ ns }
              let _ : Inhabited α := ⟨⟨n0, hn0⟩⟩
              let enc : α → Value := fun x => .int .i64 x.1
              let cf' : α → α → Int := fun x y => cf x.1 y.1
              let d : Array α := ns.attach.toArray
              have hdn : d.size = ns.length := by
                show ns.attach.toArray.size = ns.length
                rw [List.size_toArray]; exact List.length_attach
              have hdv : d.toList.map (fun x : α => x.1) = ns := by
                show ns.attach.toArray.toList.map (fun x => x.1) = ns
                exact List.attach_map_subtype_val ns
              have hds : d.size = es.length := by rw [e1, hdn]; simp [ints]
              -- each element is an int of the machine
              have hwf : ∀ x : α, (Lit.int .i64 x.1).wf = true := fun x => by
                obtain ⟨i, hi⟩ := List.getElem?_of_mem x.2
                have hie : es[i]? = some (.int .i64 x.1) := by rw [e1]; simp [ints, hi]
                have hil : i < es.length := (List.getElem?_eq_some_iff.1 hie).1
                have hic : i < c.size := by rw [c2]; omega
                have := c4 i _ 0 (.int .i64 x.1) c[i] hie rfl (by rw [Nat.mul_one, Nat.add_zero, Array.getElem?_eq_getElem hic])
                generalize c[i] = y at this
                cases this with
                | int h => exact h
              have hcells : ∀ j, j < d.size → c[j]? = some (enc d[j]!) := fun j hj => by
                have hjn : j < ns.length := by rw [← hdn]; exact hj
                have hjc : j < c.size := by rw [c2]; omega
                have hie : es[j]? = some (.int .i64 ns[j]) := by rw [e1]; simp [ints, hjn]
                have hv := c4 j _ 0 (.int .i64 ns[j]) c[j] hie rfl (by rw [Nat.mul_one, Nat.add_zero, Array.getElem?_eq_getElem hjc])
                have hdj : d[j]!.1 = ns[j] := by
                  rw [getElem!_pos d j hj]
                  have h7 : (d.toList.map (fun x : α => x.1))[j]? = ns[j]? := by rw [hdv]
                  rw [List.getElem?_map, Array.getElem?_toList, Array.getElem?_eq_getElem hj, List.getElem?_eq_getElem hjn] at h7
                  simpa using h7
                rw [Array.getElem?_eq_getElem hjc]
                generalize c[j] = y at hv
                cases hv with
                | int _ => simp only [enc, hdj]
              have hH : Go.Sort.Holds enc w g 0 d := fun j hj => by
                have h1 := hcells j hj
                refine ⟨?_, ?_⟩
                · simp only [World.cell?, c1, Nat.zero_add, h1, Option.isSome_none, Bool.false_eq_true, if_false]
                · simp only [World.frozen?, c1, Nat.zero_add]
                  simp
              have hO : Go.Sort.SWO (ltOf cf') := by
                refine ⟨fun x => ?_, fun x y z h1 h2 => ?_, fun x y z h1 h2 => ?_⟩
                · simp only [ltOf, decide_eq_false_iff_not]; exact hf.irrefl x.1 x.2
                · simp only [ltOf, decide_eq_true_eq] at h1 h2 ⊢; exact hf.trans _ x.2 _ y.2 _ z.2 h1 h2
                · simp only [ltOf, decide_eq_false_iff_not] at h1 h2 ⊢
                  intro h3
                  by_cases h4 : cf y.1 x.1 < 0
                  · exact h2 (hf.trans _ y.2 _ x.2 _ z.2 h4 h3)
                  · have := hf.total _ x.2 _ y.2 h1 h4
                    have h5 : x = y := Subtype.ext this
                    subst h5
                    exact h2 h3
              have hrow := fun (mm : Nat) (os : Array Obj) (dk : Array α) (hd : dk.size = d.size) => RelM.row enc (fun x => x.1) (fun _ => rfl) hwf hR hm hg mm os dk (by rw [hd, hds])
              have hcmp : CmpLays1 P gc cb enc cf' g 0 d.size w := by
                intro mm os dk hd x y
                have hW := hrow mm os dk hd
                have hr := hf.reads (dk.toList.map fun x => x.1) (by rw [List.length_map, Array.length_toList, hd, hdn]) (fun z hz => by obtain ⟨q, _, rfl⟩ := List.mem_map.1 hz; exact q.2) x.1 x.2 y.1 y.2
                obtain ⟨ps, hps, hMp⟩ := Option.bind_eq_some_iff.1 hr
                obtain ⟨p1, p2⟩ := frzs_ok hps
                refine (hMs _ _ hMp _ (heapOf _) _ (fun _ _ h => h) (fun g cs hg => (hW.glob g cs hg).mono hW.heap_ro) (by simp; omega) (fun i q z hq hz => ?_)).mono ?_
                · match i with
                  | 0 =>
                    rw [Array.getElem?_append_left (by simp)] at hz
                    have e3 : q = .int .i64 x.1 := by simpa using hq.symm
                    have e4 : z = enc x := by simpa using hz.symm
                    rw [e3, e4]; exact .int (hwf x)
                  | 1 =>
                    rw [Array.getElem?_append_left (by simp)] at hz
                    have e3 : q = .int .i64 y.1 := by simpa using hq.symm
                    have e4 : z = enc y := by simpa using hz.symm
                    rw [e3, e4]; exact .int (hwf y)
                  | i + 2 =>
                    simp only [List.getElem?_cons_succ] at hq
                    obtain ⟨u, hu, hfr⟩ := p2 i q hq
                    have hz' : cb[i]? = some z := by
                      rw [Array.getElem?_append_right (by simp)] at hz
                      simpa using hz
                    exact frz_full hW hW.heap_ro (fun _ _ _ _ _ => rfl) _ hfr (hcb2 i u z hu hz')
                · rintro e w' ⟨v, rfl, hb, hv⟩
                  cases hv with
                  | int _ => exact ⟨rfl, bel_grow hb⟩
              have hgl : g < w.heap.size := (Array.getElem?_eq_some_iff.1 c1).1
              have hsize : d.size < 4611686018427387904 := by
                have h2 : roomBound < 4611686018427387904 := by decide
                omega
              have hcall := Any.slices_SortFunc L enc (fun _ => rfl) cf' hO gc cb g 0 (φ id).cap d w (fun a W => run_enter fc1 fc3 fc2) hcmp hH hgl hsize
              rw [hgs] at hcall
              have hx0 : Value.slice (some ⟨g, 0, none⟩) (φ id).len (φ id).cap = Value.slice (some ⟨g, 0, none⟩) d.size (φ id).cap := by rw [a1, hds]
              rw [hx0]
              refine hcall.mono ?_
              rintro e w' ⟨rfl, d', n, os, hp, hso, rfl⟩
              have hW := hrow n os d' hp.1
              -- the sorted row is the one that was chosen
              have hperm : (d'.toList.map fun x => x.1).Perm ns := by
                have h3 := hp.2.2
                have e3 : d'.extract 0 d.size = d' := by rw [← hp.1]; exact Array.extract_size
                rw [e3, Array.extract_size] at h3
                have h4 := h3.map (fun x : α => x.1)
                rw [hdv] at h4; exact h4
              have hsor : (d'.toList.map fun x => x.1).Pairwise fun a b => ¬ cf b a < 0 := by
                rw [List.pairwise_map, List.pairwise_iff_getElem]
                intro i j hi hj hij
                have hi' : i < d'.size := by simpa using hi
                have hj' : j < d'.size := by simpa using hj
                have := hso i j (Nat.zero_le _) hij (by rw [← hp.1]; exact hj')
                rw [getElem!_pos d' j hj', getElem!_pos d' i hi'] at this
                simp only [ltOf, decide_eq_false_iff_not] at this
                simpa using this
              have heq : (d'.toList.map fun x => x.1) = ns' := SortFits.unique (c1 := cf) (c2 := cf) ⟨hperm, hf.reads, hf.irrefl, hf.trans, hf.total, hsor⟩ hf
              rw [heq, ← e2] at hW
              exact ⟨_, _, _, _, μ, φ, hk, rfl, hW, hF.lives (fun _ _ h => h) (.set), .tup rfl (by simp), fun id hid => by simp [V.has, hasL] at hid⟩
        · cases h
      · cases h
    · cases h
  · cases h
end Go.Ab
