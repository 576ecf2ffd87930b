/- Chapter 8: slices.SortFunc on an own row of objects. -/
import Derived.Test.YtcmnbfpcomcejaaC4
namespace Go.Proofs.Ytcmnbfpcomcejaa.C08
open Go Go.Proofs Go.Proofs.Ytcmnbfpcomcejaa.Ab
set_option linter.unusedSimpArgs false
set_option linter.unusedVariables false
attribute [local congr] ite_ctx

theorem sorted1_good (a b : Obj) : Ans Try.prog 99 [.agg (encObj a), .agg (encObj b)] (.int .i64 (cmpO a b)) := by
  refine good_run [] mixed Try.func99 rfl Try.ntmps99 (rs := [.tmp 4]) rfl (by decide +kernel) (by kernel_rfl) rfl ?_
  rw [startE_eq 10 _ _ _ rfl rfl]
  set_option maxRecDepth 100000 in simp (maxSteps := 10000000) only [go_sem, Nat.reduceAdd, Nat.reduceSub, Nat.reduceMul, Nat.reduceLT, Nat.reduceLeDiff, Nat.reduceEqDiff, Nat.reduceMod, Nat.reduceDiv, Int.reduceNeg, Int.reduceLE, Int.reduceLT, Int.reduceToNat, Int.reduceEq, Int.reduceNe, ↓reduceIte]
  refine call_of (order_good a.name b.name) ?_
  set_option maxRecDepth 100000 in simp (maxSteps := 10000000) only [go_sem, Nat.reduceAdd, Nat.reduceSub, Nat.reduceMul, Nat.reduceLT, Nat.reduceLeDiff, Nat.reduceEqDiff, Nat.reduceMod, Nat.reduceDiv, Int.reduceNeg, Int.reduceLE, Int.reduceLT, Int.reduceToNat, Int.reduceEq, Int.reduceNe, ↓reduceIte]
  rfl

theorem agg_enc (G : Gh) (w : World) (o : Obj) : VRel G w (.agg (encObj o)) (.agg (encV o).toArray) :=
  .agg _ _ rfl fun i c v hc hv => encV_rel G w hc (by simpa using hv)

theorem cmpLays (blk off size : Nat) (w : World) : CmpLays Try.prog 99 #[] encV 7 cmpO blk off size w := fun m os dk hs x y => by
  have h := (sorted1_good x y).2.2 (sortWorldK encV 7 w blk off m dk os) (fun _ _ => False) #[.agg (encV x).toArray, .agg (encV y).toArray] rfl (fun i a v ha hv => by
    match i, ha, hv with
    | 0, ha, hv => cases ha; cases hv; exact agg_enc _ _ x
    | 1, ha, hv => cases ha; cases hv; exact agg_enc _ _ y
    | i + 2, ha, hv => simp at ha) (fun _ _ h => h.elim)
  refine Calls.mono h fun e w' ⟨v, Pr', he, hv, _, _, _, hb⟩ => ?_
  cases hv
  exact ⟨he, grow_of hb⟩

theorem cmpN_lt' (a b : OName) : ltOf (fun x y : OName => cmpN x y) a b = nLt a b := cmpN_lt a b
theorem sLt_lt (a b : ByteArray) : sLt a b = decide (a.data.toList < b.data.toList) := by
  unfold sLt
  rw [bytesLess_eq, ByteArray.toList_eq, ByteArray.toList_eq]
theorem sLt_irrefl (a : ByteArray) : sLt a a = false := by
  rw [sLt_lt, decide_eq_false_iff_not]
  exact List.lt_irrefl _
theorem sLt_trans {a b c : ByteArray} (h1 : sLt a b = true) (h2 : sLt b c = true) : sLt a c = true := by
  rw [sLt_lt, decide_eq_true_eq] at *
  exact List.lt_trans h1 h2
theorem sLt_total {a b : ByteArray} (h1 : sLt a b = false) (h2 : sLt b a = false) : a = b := by
  rw [sLt_lt, decide_eq_false_iff_not] at *
  exact WideShapes.bytes_inj (List.le_antisymm (List.not_lt.1 h2) (List.not_lt.1 h1))
theorem nLt_iff (a b : OName) : nLt a b = true ↔ sLt a.lib b.lib = true ∨ (a.lib = b.lib ∧ (sLt a.name b.name = true ∨ (a.name = b.name ∧ a.type < b.type))) := by
  unfold nLt
  by_cases h1 : a.lib = b.lib
  · rw [if_neg (not_not_intro h1), h1, sLt_irrefl]
    by_cases h2 : a.name = b.name
    · rw [if_neg (not_not_intro h2), h2, sLt_irrefl]; simp
    · rw [if_pos h2]; simp [h2]
  · rw [if_pos h1]; simp [h1]
theorem nLt_irrefl (a : OName) : nLt a a = false := by
  rw [Bool.eq_false_iff]; intro h
  rw [nLt_iff, sLt_irrefl, sLt_irrefl] at h
  rcases h with h | ⟨_, h | ⟨_, h⟩⟩
  · cases h
  · cases h
  · exact absurd h (Int.lt_irrefl _)
theorem nLt_trans {a b c : OName} (h1 : nLt a b = true) (h2 : nLt b c = true) : nLt a c = true := by
  rw [nLt_iff] at *
  rcases h1 with h1 | ⟨e1, h1⟩
  · rcases h2 with h2 | ⟨e2, _⟩
    · exact .inl (sLt_trans h1 h2)
    · exact .inl (e2 ▸ h1)
  · rcases h2 with h2 | ⟨e2, h2⟩
    · exact .inl (e1 ▸ h2)
    · refine .inr ⟨e1.trans e2, ?_⟩
      rcases h1 with h1 | ⟨e3, h1⟩
      · rcases h2 with h2 | ⟨e4, _⟩
        · exact .inl (sLt_trans h1 h2)
        · exact .inl (e4 ▸ h1)
      · rcases h2 with h2 | ⟨e4, h2⟩
        · exact .inl (e3 ▸ h2)
        · exact .inr ⟨e3.trans e4, by omega⟩
theorem nLt_total {a b : OName} (h1 : nLt a b = false) (h2 : nLt b a = false) : a = b := by
  rw [Bool.eq_false_iff, ne_eq, nLt_iff] at h1 h2
  have e1 : a.lib = b.lib := sLt_total (Bool.eq_false_iff.2 fun h => h1 (.inl h)) (Bool.eq_false_iff.2 fun h => h2 (.inl h))
  have e2 : a.name = b.name := sLt_total (Bool.eq_false_iff.2 fun h => h1 (.inr ⟨e1, .inl h⟩)) (Bool.eq_false_iff.2 fun h => h2 (.inr ⟨e1.symm, .inl h⟩))
  have e3 : a.type = b.type := by
    have h3 : ¬ a.type < b.type := fun h => h1 (.inr ⟨e1, .inr ⟨e2, h⟩⟩)
    have h4 : ¬ b.type < a.type := fun h => h2 (.inr ⟨e1.symm, .inr ⟨e2.symm, h⟩⟩)
    omega
  obtain ⟨a1, a2, a3⟩ := a
  obtain ⟨b1, b2, b3⟩ := b
  simp only at e1 e2 e3
  subst e1 e2 e3; rfl

theorem ltO (x y : Obj) : ltOf cmpO x y = nLt x.name y.name := cmpN_lt x.name y.name
theorem swo : Sort.SWO (ltOf cmpO) where
  irrefl x := by rw [ltO]; exact nLt_irrefl _
  trans x y z h1 h2 := by rw [ltO] at *; exact nLt_trans h1 h2
  ntrans x y z h1 h2 := by
    rw [ltO] at *
    rw [Bool.eq_false_iff]; intro h3
    by_cases h4 : nLt y.name x.name = true
    · rw [nLt_trans h4 h3] at h2; cases h2
    · have := nLt_total h1 (Bool.eq_false_iff.2 h4)
      rw [this, h2] at h3; cases h3

/-- What comes of the sort. -/
def sortO (l : List Obj) : List Obj := (Sort.pdq (ltOf cmpO) l.toArray 0 l.length (Lib.bitLen l.length) true true).toList
theorem sortO_perm (l : List Obj) : (sortO l).Perm l := by
  have h := (Sort.pdq_sorts (ltOf cmpO) swo l.toArray 0 l.length (Lib.bitLen l.length) true true (Nat.zero_le _) (Nat.le_refl _) (Or.inl rfl)).1
  obtain ⟨h1, _, h3⟩ := h
  have e1 : (l.toArray.extract 0 l.length) = l.toArray := by simp
  rw [e1] at h3
  have e2 : ∀ a : Array Obj, a.size = l.length → a.extract 0 l.length = a := fun a ha => by rw [← ha]; simp
  rw [e2 _ (by rw [h1]; simp)] at h3
  exact h3
theorem sortO_len (l : List Obj) : (sortO l).length = l.length := (sortO_perm l).length_eq
theorem sortO_sorted (l : List Obj) {i j : Nat} (hij : i < j) (hj : j < l.length) : nLt (nth (sortO l) j).name (nth (sortO l) i).name = false := by
  have h := (Sort.pdq_sorts (ltOf cmpO) swo l.toArray 0 l.length (Lib.bitLen l.length) true true (Nat.zero_le _) (Nat.le_refl _) (Or.inl rfl)).2
  have hl := sortO_len l
  have e : ∀ k, k < l.length → (Sort.pdq (ltOf cmpO) l.toArray 0 l.length (Lib.bitLen l.length) true true)[k]! = nth (sortO l) k := fun k hk => by
    have hk2 : k < (Sort.pdq (ltOf cmpO) l.toArray 0 l.length (Lib.bitLen l.length) true true).size := by
      have : (Sort.pdq (ltOf cmpO) l.toArray 0 l.length (Lib.bitLen l.length) true true).size = (sortO l).length := rfl
      omega
    rw [getElem!_pos _ k hk2, nth_eq (by rw [hl]; exact hk)]
    rfl
  have := h i j (Nat.zero_le _) hij hj
  rw [e i (by omega), e j hj, ltO] at this
  exact this
end Go.Proofs.Ytcmnbfpcomcejaa.C08
