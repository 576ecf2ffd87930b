/- Freezing of values; indexes; cuts. -/
import Derived.Test.YtbhgehhmjpipiaaGreatDoorAb5
set_option linter.unusedSectionVars false
set_option linter.unusedSimpArgs false
set_option linter.unusedVariables false
namespace Go.Proofs.YtbhgehhmjpipiaaGreatDoor.Ab
open Go Go.RowKit
variable [Inhabited DW]
structure Sam (e e' : Env) : Prop where
 s : e'.s = e.s
 len : e'.o.length = e.o.length
 o : ∀ t, e'.go t = e.go t ∨ ∃ ver ty esz fz pu xs, e.go t = .obj ver ty esz fz pu xs ∧ e'.go t = .obj ver ty esz true pu xs
theorem Sam.refl (e : Env) : Sam e e := ⟨rfl, rfl, fun _ => .inl rfl⟩
theorem Sam.obj {e e' : Env} (h : Sam e e') {t ver : Nat} {ty : TypeId} {esz : Nat} {fz pu : Bool} {xs : List (List AV)} (ho : e.go t = .obj ver ty esz fz pu xs) :
 ∃ fz', e'.go t = .obj ver ty esz fz' pu xs := by
 rcases h.o t with h1 | ⟨ver', ty', esz', fz', pu', xs', h1, h2⟩
 · exact ⟨fz, by rw [h1, ho]⟩
 · rw [ho] at h1; cases h1; exact ⟨true, h2⟩
theorem Sam.put {e e' : Env} (h : Sam e e') {t ver : Nat} {ty : TypeId} {esz : Nat} {fz pu : Bool} {xs : List (List AV)} (ho : e.go t = .obj ver ty esz fz pu xs) :
 Sam e (e'.put (.o t) (.obj ver ty esz true pu xs)) where
 s := h.s
 len := by simp [h.len]
 o u := by
  rw [Env.go_put_o]
  split
  · rename_i hu
    obtain ⟨rfl, _⟩ := hu
    exact .inr ⟨ver, ty, esz, fz, pu, xs, ho, rfl⟩
  · exact h.o u
section
variable {P : Program} {w0 : Bs} {Pr0 : Nat → Nat → Prop} {G : Gh} {e e' : Env} {a : Act} {w : World}
theorem idx_lt {n esz i j : Nat} (hi : i < n) (hj : j < esz) : i * esz + j < n * esz := by
 have : (i + 1) * esz ≤ n * esz := Nat.mul_le_mul_right _ hi
 rw [Nat.add_mul, Nat.one_mul] at this
 omega
theorem frz1_sound (hS : Sam e e') (hI : Inv w0 Pr0 G e' a.tmps w) {x x' : AV} {v : Value} {ws : Ws} (hx : VRel G w x v) (hf : e.frz1 x = some (x', ws)) :
 ∃ G', GLe G w G' w ∧ Inv w0 Pr0 G' (e'.puts ws) a.tmps w ∧ Sam e (e'.puts ws) ∧ VRel G' w x' v ∧ x'.cellP = true := by
 have plain : ∀ {x}, VRel G w x v → (if x.cellP = true then some (x, ([] : Ws)) else none) = some (x', ws) → ∃ G', GLe G w G' w ∧ Inv w0 Pr0 G' (e'.puts ws) a.tmps w ∧ Sam e (e'.puts ws) ∧ VRel G' w x' v ∧ x'.cellP = true := by
  intro x hx hf
  split at hf
  · cases hf; exact ⟨G, GLe.refl _ _, hI, hS, hx, by assumption⟩
  · cases hf
 cases x with
 | ref t ver =>
   simp only [Env.frz1] at hf
   cases ho : e.go t with
   | obj ver' ty esz fz pu xs =>
     rw [ho] at hf
     cases pu with
     | false => simp at hf
     | true =>
       simp only at hf
       split at hf
       case isFalse => cases hf
       rename_i hver
       subst hver
       cases hf
       obtain ⟨fz', ho'⟩ := hS.obj ho
       have hlt := hI.olt ho'
       obtain ⟨G', hle, hI', hob, hcnt, hpr⟩ := hI.freeze ho' hlt
       obtain ⟨_, hpu, hs, g, h4, h5, h6, h7, h8⟩ := hI.obj ho'
       refine ⟨G', hle, hI', hS.put ho, ?_, rfl⟩
       cases hx with
       | ref _ _ _ hv h1 h =>
         rcases h8 with ⟨h8, h9⟩ | ⟨blk, arr, k1, k2, k3, k4, k5, k6, k7, k8, k9⟩
         · subst h9
           rw [h g h4 h5, h6]
           exact .sl0 _ _
         · rw [h g h4 h5, h6, k1]
           refine .sl xs blk 0 g.cap esz (fun i j => (arr[i * esz + j]?).getD undef) k4 hs (hpu rfl) (fun i j x a h1 h2 => ?_) (fun i j x a h1 h2 => ?_) (fun i j x a h1 h2 => ?_)
           · obtain ⟨u, hu, _⟩ := k8 i j x a h1 h2
             rw [cell_of_row _ _ _ _ _ _ k3, Nat.zero_add]
             simp only [hu, Option.getD_some]
           · rw [Nat.zero_add]
             refine hpr g blk h4 k7 k1 _ (idx_lt (List.getElem?_eq_some_iff.1 h1).1 ?_)
             rw [← hs x (List.mem_of_getElem? h1)]
             exact (List.getElem?_eq_some_iff.1 h2).1
           · obtain ⟨u, hu, hr⟩ := k8 i j x a h1 h2
             simp only [hu, Option.getD_some]
             exact hr.mono hle
   | _ => rw [ho] at hf; simp at hf
 | loc t ver i off =>
   simp only [Env.frz1] at hf
   cases ho : e.go t with
   | obj ver' ty esz fz pu xs =>
     rw [ho] at hf
     simp only at hf
     split at hf
     case isFalse => cases hf
     rename_i hver
     subst hver
     cases hxi : xs[i]? with
     | none => rw [hxi] at hf; cases hf
     | some row =>
       rw [hxi] at hf
       simp only at hf
       split at hf
       case isFalse => cases hf
       rename_i hall
       cases hf
       obtain ⟨fz', ho'⟩ := hS.obj ho
       have hlt := hI.olt ho'
       obtain ⟨G', hle, hI', hob, hcnt, hpr⟩ := hI.freeze ho' hlt
       obtain ⟨_, hpu, hs, g, h4, h5, h6, h7, h8⟩ := hI.obj ho'
       refine ⟨G', hle, hI', hS.put ho, ?_, rfl⟩
       cases hx with
       | loc _ _ _ _ _ hv h1 h =>
         rcases h8 with ⟨h8, h9⟩ | ⟨blk, arr, k1, k2, k3, k4, k5, k6, k7, k8, k9⟩
         · subst h9; cases hxi
         · obtain ⟨b, hb, rfl⟩ := h g h4 h5
           rw [k1] at hb; cases hb
           rw [h7]
           refine .ptr _ blk _ (fun j => (arr[i * esz + (off + j)]?).getD undef) (fun b hb => List.all_eq_true.1 hall b hb) (fun j b hb => ?_) (fun j b hb => ?_) (fun j b hb => ?_)
           · rw [List.getElem?_drop] at hb
             obtain ⟨u, hu, _⟩ := k8 i (off + j) row b hxi hb
             have e1 : i * esz + off + j = i * esz + (off + j) := by omega
             rw [cell_of_row _ _ _ _ _ _ k3, e1]
             simp only [hu, Option.getD_some]
           · rw [List.getElem?_drop] at hb
             have e1 : i * esz + off + j = i * esz + (off + j) := by omega
             rw [e1]
             refine hpr g blk h4 k7 k1 _ (idx_lt (List.getElem?_eq_some_iff.1 hxi).1 ?_)
             rw [← hs row (List.mem_of_getElem? hxi)]
             exact (List.getElem?_eq_some_iff.1 hb).1
           · rw [List.getElem?_drop] at hb
             obtain ⟨u, hu, hr⟩ := k8 i (off + j) row b hxi hb
             simp only [hu, Option.getD_some]
             exact hr.mono hle
   | _ => rw [ho] at hf; simp at hf
 | win t ver k n =>
   simp only [Env.frz1] at hf
   cases ho : e.go t with
   | obj ver' ty esz fz pu xs =>
     rw [ho] at hf
     cases pu with
     | false => simp at hf
     | true =>
       simp only at hf
       split at hf
       case isFalse => cases hf
       rename_i hver
       subst hver
       split at hf
       case isFalse => cases hf
       rename_i hkn
       cases hf
       obtain ⟨fz', ho'⟩ := hS.obj ho
       have hlt := hI.olt ho'
       obtain ⟨G', hle, hI', hob, hcnt, hpr⟩ := hI.freeze ho' hlt
       obtain ⟨_, hpu, hs, g, h4, h5, h6, h7, h8⟩ := hI.obj ho'
       refine ⟨G', hle, hI', hS.put ho, ?_, rfl⟩
       cases hx with
       | win _ _ _ _ _ hv h1 h =>
         obtain ⟨A, rfl, hcap, hb⟩ := h g h4 h5
         by_cases hn : n = 0
         · subst hn
           rw [List.take_zero]
           exact .sl0 _ _
         · rcases h8 with ⟨h8, h9⟩ | ⟨blk, arr, k1, k2, k3, k4, k5, k6, k7, k8, k9⟩
           · subst h9; simp at hkn; omega
           · obtain ⟨b, hb1, rfl⟩ := hb (by omega)
             rw [k1] at hb1; cases hb1
             have hlen : ((xs.drop k).take n).length = n := by rw [List.length_take, List.length_drop]; omega
             have hat : ∀ i x, ((xs.drop k).take n)[i]? = some x → xs[k + i]? = some x := fun i x hx => by
              rw [List.getElem?_take] at hx
              split at hx
              · rwa [List.getElem?_drop] at hx
              · cases hx
             have hmem : ∀ x ∈ (xs.drop k).take n, x ∈ xs := fun x hx => List.mem_of_mem_drop (List.mem_of_mem_take hx)
             have hoff : ∀ i j, k * esz + i * esz + j = (k + i) * esz + j := fun i j => by rw [Nat.add_mul]
             rw [h7]
             have key := VRel.sl (G := G') (w := w) ((xs.drop k).take n) blk (k * esz) (g.cap - k) esz (fun i j => (arr[(k + i) * esz + j]?).getD undef) (by omega) (fun x hx => hs x (hmem x hx)) (fun x hx => hpu rfl x (hmem x hx))
              (fun i j x a h1 h2 => by
                obtain ⟨u, hu, _⟩ := k8 (k + i) j x a (hat i x h1) h2
                rw [hoff, cell_of_row _ _ _ _ _ _ k3]
                simp only [hu, Option.getD_some])
              (fun i j x a h1 h2 => by
                rw [hoff]
                refine hpr g blk h4 k7 k1 _ (idx_lt (List.getElem?_eq_some_iff.1 (hat i x h1)).1 ?_)
                rw [← hs x (List.mem_of_getElem? (hat i x h1))]
                exact (List.getElem?_eq_some_iff.1 h2).1)
              (fun i j x a h1 h2 => by
                obtain ⟨u, hu, hr⟩ := k8 (k + i) j x a (hat i x h1) h2
                simp only [hu, Option.getD_some]
                exact hr.mono hle)
             rw [hlen] at key
             exact key
   | _ => rw [ho] at hf; simp at hf
 | _ => exact plain hx hf
theorem frzL_sound : ∀ (cs cs' : List AV) (ws : Ws) (G : Gh) (e' : Env) (V : Nat → Value), Sam e e' → Inv w0 Pr0 G e' a.tmps w → (∀ (i : Nat) (c : AV), cs[i]? = some c → VRel G w c (V i)) → e.frzL cs = some (cs', ws) →
 ∃ G', GLe G w G' w ∧ Inv w0 Pr0 G' (e'.puts ws) a.tmps w ∧ Sam e (e'.puts ws) ∧ cs'.length = cs.length ∧ (∀ (i : Nat) (c : AV), cs'[i]? = some c → VRel G' w c (V i)) ∧ (∀ c ∈ cs', c.cellP = true)
 | [], cs', ws, G, e', V, hS, hI, h, hf => by
   simp only [Env.frzL, Option.some.injEq, Prod.mk.injEq] at hf
   obtain ⟨rfl, rfl⟩ := hf
   exact ⟨G, GLe.refl _ _, hI, hS, rfl, fun i c hc => by simp at hc, by simp⟩
 | c :: cs, cs', ws, G, e', V, hS, hI, h, hf => by
   simp only [Env.frzL] at hf
   cases h1 : e.frz1 c with
   | none => rw [h1] at hf; simp at hf
   | some p =>
     cases h2 : e.frzL cs with
     | none => rw [h1, h2] at hf; simp at hf
     | some q =>
       obtain ⟨c', w1⟩ := p
       obtain ⟨cs1, w2⟩ := q
       rw [h1, h2] at hf
       simp only [Option.some.injEq, Prod.mk.injEq] at hf
       obtain ⟨rfl, rfl⟩ := hf
       obtain ⟨G1, l1, I1, S1, R1, p1⟩ := frz1_sound hS hI (h 0 c rfl) h1
       obtain ⟨G2, l2, I2, S2, n2, R2, p2⟩ := frzL_sound cs cs1 w2 G1 (e'.puts w1) (fun i => V (i + 1)) S1 I1 (fun i c hc => (h (i + 1) c (by simpa using hc)).mono l1) h2
       rw [Env.puts_append]
       refine ⟨G2, l1.trans l2, I2, S2, by simp [n2], fun i c hc => ?_, fun c hc => ?_⟩
       · cases i with
         | zero => simp at hc; subst hc; exact R1.mono l2
         | succ i => exact R2 i c (by simpa using hc)
       · rcases List.mem_cons.1 hc with rfl | hc
         · exact p1
         · exact p2 c hc
theorem frz_sound (hS : Sam e e') (hI : Inv w0 Pr0 G e' a.tmps w) {x x' : AV} {v : Value} {ws : Ws} (hx : VRel G w x v) (hf : e.frz x = some (x', ws)) :
 ∃ G', GLe G w G' w ∧ Inv w0 Pr0 G' (e'.puts ws) a.tmps w ∧ Sam e (e'.puts ws) ∧ VRel G' w x' v ∧ x'.pure = true ∧ (∀ cs, cellsOf x = some cs → ∃ cs', cellsOf x' = some cs' ∧ cs'.length = cs.length) := by
 have one : ∀ {x}, (∀ cs, x ≠ .agg cs) → VRel G w x v → e.frz1 x = some (x', ws) → ∃ G', GLe G w G' w ∧ Inv w0 Pr0 G' (e'.puts ws) a.tmps w ∧ Sam e (e'.puts ws) ∧ VRel G' w x' v ∧ x'.pure = true ∧ (∀ cs, cellsOf x = some cs → ∃ cs', cellsOf x' = some cs' ∧ cs'.length = cs.length) := by
  intro x hne hx hf
  obtain ⟨G1, l1, I1, S1, R1, p1⟩ := frz1_sound hS hI hx hf
  refine ⟨G1, l1, I1, S1, R1, ?_, fun cs hcs => ?_⟩
  · cases x' <;> simp_all [AV.pure, AV.cellP]
  · have h1 : cs.length = 1 := by
     cases x <;> simp_all [cellsOf] <;> subst_vars <;> rfl
    cases x' <;> simp_all [cellsOf, AV.cellP]
 cases x with
 | agg cs =>
   simp only [Env.frz] at hf
   cases h1 : e.frzL cs with
   | none => rw [h1] at hf; cases hf
   | some p =>
     obtain ⟨cs', w1⟩ := p
     rw [h1] at hf
     simp only [Option.some.injEq, Prod.mk.injEq] at hf
     obtain ⟨rfl, rfl⟩ := hf
     cases hx with
     | agg _ vs hn h =>
       obtain ⟨G1, l1, I1, S1, n1, R1, p1⟩ := frzL_sound cs cs' w1 G e' (fun i => (vs[i]?).getD undef) hS hI (fun i c hc => by
        have hi : i < vs.size := by rw [hn]; exact (List.getElem?_eq_some_iff.1 hc).1
        rw [Array.getElem?_eq_getElem hi]
        exact h i c _ hc (Array.getElem?_eq_getElem hi)) h1
       refine ⟨G1, l1, I1, S1, .agg _ _ (by omega) (fun i c v hc hv => ?_), by simpa [AV.pure] using p1, fun cs0 hcs => ⟨cs', rfl, ?_⟩⟩
       · have := R1 i c hc
         rw [hv] at this
         exact this
       · simp only [cellsOf, Option.some.injEq] at hcs; subst hcs; exact n1
 | _ => exact one (by simp) hx hf
theorem frzA_sound : ∀ (cs cs' : List AV) (ws : Ws) (G : Gh) (e' : Env) (V : Nat → Value), Sam e e' → Inv w0 Pr0 G e' a.tmps w → (∀ (i : Nat) (c : AV), cs[i]? = some c → VRel G w c (V i)) → e.frzA cs = some (cs', ws) →
 ∃ G', GLe G w G' w ∧ Inv w0 Pr0 G' (e'.puts ws) a.tmps w ∧ Sam e (e'.puts ws) ∧ cs'.length = cs.length ∧ (∀ (i : Nat) (c : AV), cs'[i]? = some c → VRel G' w c (V i)) ∧ (∀ c ∈ cs', c.pure = true)
 | [], cs', ws, G, e', V, hS, hI, h, hf => by
   simp only [Env.frzA, Option.some.injEq, Prod.mk.injEq] at hf
   obtain ⟨rfl, rfl⟩ := hf
   exact ⟨G, GLe.refl _ _, hI, hS, rfl, fun i c hc => by simp at hc, by simp⟩
 | c :: cs, cs', ws, G, e', V, hS, hI, h, hf => by
   simp only [Env.frzA] at hf
   cases h1 : e.frz c with
   | none => rw [h1] at hf; simp at hf
   | some p =>
     cases h2 : e.frzA cs with
     | none => rw [h1, h2] at hf; simp at hf
     | some q =>
       obtain ⟨c', w1⟩ := p
       obtain ⟨cs1, w2⟩ := q
       rw [h1, h2] at hf
       simp only [Option.some.injEq, Prod.mk.injEq] at hf
       obtain ⟨rfl, rfl⟩ := hf
       obtain ⟨G1, l1, I1, S1, R1, p1, _⟩ := frz_sound hS hI (h 0 c rfl) h1
       obtain ⟨G2, l2, I2, S2, n2, R2, p2⟩ := frzA_sound cs cs1 w2 G1 (e'.puts w1) (fun i => V (i + 1)) S1 I1 (fun i c hc => (h (i + 1) c (by simpa using hc)).mono l1) h2
       rw [Env.puts_append]
       refine ⟨G2, l1.trans l2, I2, S2, by simp [n2], fun i c hc => ?_, fun c hc => ?_⟩
       · cases i with
         | zero => simp at hc; subst hc; exact R1.mono l2
         | succ i => exact R2 i c (by simpa using hc)
       · rcases List.mem_cons.1 hc with rfl | hc
         · exact p1
         · exact p2 c hc
theorem frz1s_sound (hS : Sam e e') (hI : Inv w0 Pr0 G e' a.tmps w) {x x' : AV} {v : Value} {ws : Ws} (hx : VRel G w x v) (hf : e.frz1s x = some (x', ws)) :
 ∃ G', GLe G w G' w ∧ Inv w0 Pr0 G' (e'.puts ws) a.tmps w ∧ Sam e (e'.puts ws) ∧ VRel G' w x' v := by
 unfold Env.frz1s at hf
 cases h1 : e.frz1 x with
 | some p =>
   rw [h1] at hf; cases hf
   obtain ⟨G1, l1, I1, S1, R1, _⟩ := frz1_sound hS hI hx h1
   exact ⟨G1, l1, I1, S1, R1⟩
 | none =>
   rw [h1] at hf
   simp only at hf
   split at hf
   · cases hf; exact ⟨G, GLe.refl _ _, hI, hS, hx⟩
   · cases hf
theorem frzLs_sound : ∀ (cs cs' : List AV) (ws : Ws) (G : Gh) (e' : Env) (V : Nat → Value), Sam e e' → Inv w0 Pr0 G e' a.tmps w → (∀ (i : Nat) (c : AV), cs[i]? = some c → VRel G w c (V i)) → e.frzLs cs = some (cs', ws) →
 ∃ G', GLe G w G' w ∧ Inv w0 Pr0 G' (e'.puts ws) a.tmps w ∧ Sam e (e'.puts ws) ∧ cs'.length = cs.length ∧ (∀ (i : Nat) (c : AV), cs'[i]? = some c → VRel G' w c (V i))
 | [], cs', ws, G, e', V, hS, hI, h, hf => by
   simp only [Env.frzLs, Option.some.injEq, Prod.mk.injEq] at hf
   obtain ⟨rfl, rfl⟩ := hf
   exact ⟨G, GLe.refl _ _, hI, hS, rfl, fun i c hc => by simp at hc⟩
 | c :: cs, cs', ws, G, e', V, hS, hI, h, hf => by
   simp only [Env.frzLs] at hf
   cases h1 : e.frz1s c with
   | none => rw [h1] at hf; simp at hf
   | some p =>
     cases h2 : e.frzLs cs with
     | none => rw [h1, h2] at hf; simp at hf
     | some q =>
       obtain ⟨c', w1⟩ := p
       obtain ⟨cs1, w2⟩ := q
       rw [h1, h2] at hf
       simp only [Option.some.injEq, Prod.mk.injEq] at hf
       obtain ⟨rfl, rfl⟩ := hf
       obtain ⟨G1, l1, I1, S1, R1⟩ := frz1s_sound hS hI (h 0 c rfl) h1
       obtain ⟨G2, l2, I2, S2, n2, R2⟩ := frzLs_sound cs cs1 w2 G1 (e'.puts w1) (fun i => V (i + 1)) S1 I1 (fun i c hc => (h (i + 1) c (by simpa using hc)).mono l1) h2
       rw [Env.puts_append]
       refine ⟨G2, l1.trans l2, I2, S2, by simp [n2], fun i c hc => ?_⟩
       cases i with
       | zero => simp at hc; subst hc; exact R1.mono l2
       | succ i => exact R2 i c (by simpa using hc)
theorem frzs_sound (hS : Sam e e') (hI : Inv w0 Pr0 G e' a.tmps w) {x x' : AV} {v : Value} {ws : Ws} (hx : VRel G w x v) (hf : e.frzs x = some (x', ws)) :
 ∃ G', GLe G w G' w ∧ Inv w0 Pr0 G' (e'.puts ws) a.tmps w ∧ Sam e (e'.puts ws) ∧ VRel G' w x' v := by
 cases x with
 | agg cs =>
   simp only [Env.frzs] at hf
   cases h1 : e.frzLs cs with
   | none => rw [h1] at hf; cases hf
   | some p =>
     obtain ⟨cs', w1⟩ := p
     rw [h1] at hf
     simp only [Option.some.injEq, Prod.mk.injEq] at hf
     obtain ⟨rfl, rfl⟩ := hf
     cases hx with
     | agg _ vs hn h =>
       obtain ⟨G1, l1, I1, S1, n1, R1⟩ := frzLs_sound cs cs' w1 G e' (fun i => (vs[i]?).getD undef) hS hI (fun i c hc => by
        have hlt : i < vs.size := by rw [hn]; exact (List.getElem?_eq_some_iff.1 hc).1
        have hv : vs[i]? = some vs[i] := Array.getElem?_eq_getElem hlt
        rw [hv]; exact h i c _ hc hv) h1
       refine ⟨G1, l1, I1, S1, .agg _ _ (by rw [hn, n1]) fun i c v hc hv => ?_⟩
       have := R1 i c hc
       simp only [hv, Option.getD_some] at this
       exact this
 | _ => exact frz1s_sound hS hI hx hf
theorem frzAs_sound : ∀ (cs cs' : List AV) (ws : Ws) (G : Gh) (e' : Env) (V : Nat → Value), Sam e e' → Inv w0 Pr0 G e' a.tmps w → (∀ (i : Nat) (c : AV), cs[i]? = some c → VRel G w c (V i)) → e.frzAs cs = some (cs', ws) →
 ∃ G', GLe G w G' w ∧ Inv w0 Pr0 G' (e'.puts ws) a.tmps w ∧ Sam e (e'.puts ws) ∧ cs'.length = cs.length ∧ (∀ (i : Nat) (c : AV), cs'[i]? = some c → VRel G' w c (V i))
 | [], cs', ws, G, e', V, hS, hI, h, hf => by
   simp only [Env.frzAs, Option.some.injEq, Prod.mk.injEq] at hf
   obtain ⟨rfl, rfl⟩ := hf
   exact ⟨G, GLe.refl _ _, hI, hS, rfl, fun i c hc => by simp at hc⟩
 | c :: cs, cs', ws, G, e', V, hS, hI, h, hf => by
   simp only [Env.frzAs] at hf
   cases h1 : e.frzs c with
   | none => rw [h1] at hf; simp at hf
   | some p =>
     cases h2 : e.frzAs cs with
     | none => rw [h1, h2] at hf; simp at hf
     | some q =>
       obtain ⟨c', w1⟩ := p
       obtain ⟨cs1, w2⟩ := q
       rw [h1, h2] at hf
       simp only [Option.some.injEq, Prod.mk.injEq] at hf
       obtain ⟨rfl, rfl⟩ := hf
       obtain ⟨G1, l1, I1, S1, R1⟩ := frzs_sound hS hI (h 0 c rfl) h1
       obtain ⟨G2, l2, I2, S2, n2, R2⟩ := frzAs_sound cs cs1 w2 G1 (e'.puts w1) (fun i => V (i + 1)) S1 I1 (fun i c hc => (h (i + 1) c (by simpa using hc)).mono l1) h2
       rw [Env.puts_append]
       refine ⟨G2, l1.trans l2, I2, S2, by simp [n2], fun i c hc => ?_⟩
       cases i with
       | zero => simp at hc; subst hc; exact R1.mono l2
       | succ i => exact R2 i c (by simpa using hc)
theorem elemT_spec {t et : TypeId} (h : elemT P t = some et) : P.underlying t = some (.slice et) ∧ P.elem t = et := by
 unfold elemT at h
 unfold Program.elem
 split at h
 · rename_i e he
   cases h
   simp [he]
 · cases h
theorem run_arrIndex {ty : TypeId} {x r : AV} {xv : Value} {k : IntKind} {n : Int} (hx : VRel G w x xv) (h : arrIndex P ty x n = some r) :
 ∃ v, (Instr.indexAt ty xv (.int k n)).run P w = .ok v w ∧ VRel G w r v := by
 unfold arrIndex at h
 cases ha : arrT P ty with
 | none => rw [ha] at h; cases h
 | some le =>
   obtain ⟨len, et⟩ := le
   rw [ha] at h
   have hu : P.underlying ty = some (.array len et) := by
    unfold arrT at ha
    split at ha
    · rename_i q; cases ha; exact q
    · cases ha
   cases hx with
   | ptr cs b o V h3 h4 h5 h6 =>
     simp only at h
     cases hs : sizeT P et with
     | none => rw [hs] at h; cases h
     | some esz =>
       rw [hs] at h
       simp only at h
       split at h
       case isFalse => cases h
       rename_i h0
       split at h
       case isFalse => cases h
       rename_i h1
       cases h
       have hu2 : P.underlying ty = some (.array (P.arrayLen ty) (P.elem ty)) := by
        have e1 : P.arrayLen ty = len := by simp [Program.arrayLen, hu]
        have e2 : P.elem ty = et := by simp [Program.elem, hu]
        rw [e1, e2]; exact hu
       have e1 : P.arrayLen ty = len := by simp [Program.arrayLen, hu]
       have e2 : P.elem ty = et := by simp [Program.elem, hu]
       refine ⟨.pointer (some ⟨b, o + n.toNat * esz, none⟩), ?_, .ptr _ b _ (fun j => V (n.toNat * esz + j)) (fun c hc => h3 c (List.mem_of_mem_drop hc)) (fun j c hj => ?_) (fun j c hj => ?_) (fun j c hj => ?_)⟩
       · rw [run_indexAt_array w ty _ k n hu2, e1, e2, if_pos ⟨h0, h1⟩, run_sizeOf hs]
         simp [Addr.add_lit]
       · rw [List.getElem?_drop] at hj; rw [Nat.add_assoc]; exact h4 _ c hj
       · rw [List.getElem?_drop] at hj; rw [Nat.add_assoc]; exact h5 _ c hj
       · rw [List.getElem?_drop] at hj; exact h6 _ c hj
   | _ => cases h
theorem Inv.run_index (hI : Inv w0 Pr0 G e a.tmps w) {ty : TypeId} {x r : AV} {xv : Value} {k : IntKind} {n : Int} (hx : VRel G w x xv) (h : e.index P ty x n = some r) :
 ∃ v, (Instr.indexAt ty xv (.int k n)).run P w = .ok v w ∧ VRel G w r v := by
 unfold Env.index at h
 cases he : elemT P ty with
 | none => rw [he] at h; exact run_arrIndex hx h
 | some et =>
   obtain ⟨hu, hel⟩ := elemT_spec he
   rw [he] at h
   simp only [Option.bind_some] at h
   cases hs : sizeT P et with
   | none => rw [hs] at h; exact run_arrIndex hx h
   | some esz =>
     rw [hs] at h
     simp only at h
     cases x with
     | sl xs =>
       simp only at h
       split at h
       case isFalse => cases h
       rename_i h0
       split at h
       case isFalse => cases h
       rename_i h1
       split at h
       case isFalse => cases h
       rename_i hlen
       cases h
       have hn : n.toNat < xs.length := by omega
       cases hx with
       | sl0 A c => simp at hn
       | sl _ b o c esz' V hc hs' hp hcell hpr hr =>
         have hg : xs.getD n.toNat [] = xs[n.toNat] := by simp [List.getD_eq_getElem?_getD, hn]
         have hi : xs[n.toNat]? = some xs[n.toNat] := List.getElem?_eq_getElem hn
         rw [hg] at hlen ⊢
         have hee : esz' = esz := by rw [← hlen]; exact (hs' _ (List.mem_of_getElem? hi)).symm
         subst hee
         refine ⟨.pointer (some ⟨b, o + n.toNat * esz', none⟩), ?_, .ptr _ b _ (fun j => V n.toNat j) (fun a ha => hp _ (List.mem_of_getElem? hi) a ha) (fun j a hj => hcell n.toNat j _ a hi hj) (fun j a hj => hpr n.toNat j _ a hi hj) (fun j a hj => hr n.toNat j _ a hi hj)⟩
         rw [run_indexAt_slice w ty _ _ _ k n (by rw [hel]; exact hu), if_pos ⟨h0, h1⟩, hel, run_sizeOf hs]
         simp [Addr.add_lit]
     | ref t ver =>
       simp only at h
       cases ho : e.go t with
       | obj ver' oty esz' fz pu xs =>
         rw [ho] at h
         simp only at h
         split at h
         case isFalse => cases h
         rename_i hver
         subst hver
         split at h
         case isFalse => cases h
         rename_i hes
         subst hes
         split at h
         case isFalse => cases h
         rename_i h0
         split at h
         case isFalse => cases h
         rename_i h1
         cases h
         obtain ⟨hcnt, hpu, hs', g, h4, h5, h6, h7, h8⟩ := hI.obj ho
         cases hx with
         | ref _ _ _ hv hv1 hvv =>
           rcases h8 with ⟨_, h9⟩ | ⟨blk, arr, k1, k2, k3, k4, k5, k6, k7, k8, k9⟩
           · subst h9; simp at h1; omega
           · rw [hvv g h4 h5, h6, k1]
             refine ⟨.pointer (some ⟨blk, n.toNat * esz', none⟩), ?_, .loc t _ _ 0 _ hv rfl (fun g' hg' hv' => ?_)⟩
             · rw [run_indexAt_slice w ty _ _ _ k n (by rw [hel]; exact hu), if_pos ⟨h0, h1⟩, hel, run_sizeOf hs]
               simp [Addr.add_lit]
             · rw [h4] at hg'; cases hg'
               exact ⟨blk, k1, by rw [h7, Nat.add_zero]⟩
       | _ => rw [ho] at h; simp at h
     | win t ver k m =>
       simp only at h
       cases ho : e.go t with
       | obj ver' oty esz' fz pu xs =>
         rw [ho] at h
         simp only at h
         split at h
         case isFalse => cases h
         rename_i hver
         subst hver
         split at h
         case isFalse => cases h
         rename_i hes
         subst hes
         split at h
         case isFalse => cases h
         rename_i h0
         split at h
         case isFalse => cases h
         rename_i h1
         split at h
         case isFalse => cases h
         rename_i hkm
         cases h
         obtain ⟨hcnt, hpu, hs', g, h4, h5, h6, h7, h8⟩ := hI.obj ho
         cases hx with
         | win _ _ _ _ _ hv hv1 hvv =>
           obtain ⟨A, rfl, hcap, hb⟩ := hvv g h4 h5
           obtain ⟨b, hb1, rfl⟩ := hb (by omega)
           refine ⟨.pointer (some ⟨b, (k + n.toNat) * esz', none⟩), ?_, .loc t _ _ 0 _ hv rfl (fun g' hg' hv' => ?_)⟩
           · rw [run_indexAt_slice w ty _ _ _ _ n (by rw [hel]; exact hu), if_pos ⟨h0, h1⟩, hel, run_sizeOf hs]
             simp [Addr.add_lit, h7, Nat.add_mul]
           · rw [h4] at hg'; cases hg'
             exact ⟨b, hb1, by rw [h7, Nat.add_zero]⟩
       | _ => rw [ho] at h; simp at h
     | _ => simp at h
end
end Go.Proofs.YtbhgehhmjpipiaaGreatDoor.Ab
