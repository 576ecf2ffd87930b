/- Chapter 9: the libraries for a name, by the reference. -/
import Derived.Test.YtppjmigiogddpaaE8
namespace Go.Proofs.Ytppjmigiogddpaa.C08
open Go Go.Proofs Go.Proofs.Ytppjmigiogddpaa.Ab
set_option linter.unusedSimpArgs false
set_option linter.unusedVariables false
attribute [local congr] ite_ctx

theorem scanI_all {f : Nat → Int} : ∀ (k i : Nat), (scanI f k i).2 = 0 → ∀ j, i ≤ j → j < i + k → f j = 0
  | 0, i, _, j, h1, h2 => by omega
  | k + 1, i, h, j, h1, h2 => by
    rw [scanI] at h
    split at h
    · rename_i h0
      by_cases hj : j = i
      · rw [hj]; exact h0
      · exact scanI_all k (i + 1) h j (by omega) (by omega)
    · rename_i h0; exact absurd h h0
/-- In a right list each library is a name, and there. -/
theorem listE_all {d : Dir} {l : LList} (h : (listE d l).2 = 0) {i : Nat} (hi : i < (l.system ++ l.user).length) : listI d (l.system ++ l.user) i = 0 := by
  rw [listE] at h
  split at h
  · rename_i q; exact absurd h q
  split at h
  · cases h
  split at h
  · rename_i q
    exact scanI_all _ 0 q i (Nat.zero_le _) (by omega)
  · rename_i q; exact absurd h q
theorem listI_lib {d : Dir} {all : List ByteArray} {i : Nat} (h : listI d all i = 0) : libE d.objects (nth all i) = 0 := by
  rw [listI] at h
  split at h
  · rename_i q; exact absurd h q
  · rename_i q; exact Classical.not_not.1 q
theorem libE_ne {l : List Obj} {s : ByteArray} (h : libE l s = 0) : ¬ s = ⟨#[]⟩ := fun q => by
  subst q
  rw [libE, if_pos (by decide +kernel)] at h
  cases h
theorem nth_append_right {α : Type} [Inhabited α] (a b : List α) (i : Nat) (h : i < b.length) : nth (a ++ b) (a.length + i) = nth b i := by
  rw [nth_eq (by rw [List.length_append]; omega), nth_eq h, List.getElem_append_right (by omega)]
  congr 1; omega
theorem user_ne {d : Dir} {l : LList} (h : (listE d l).2 = 0) {i : Nat} (hi : i < l.user.length) : ¬ nth l.user i = ⟨#[]⟩ := by
  have := listE_all h (i := l.system.length + i) (by rw [List.length_append]; omega)
  have h2 := libE_ne (listI_lib this)
  rwa [nth_append_right _ _ _ hi] at h2
theorem ixS_none (l : List ByteArray) (s : ByteArray) : (ixS l s = -1) ↔ (l.any fun p => decide (p = s)) = false := by
  have h1 := findIx_ge (fun p : ByteArray => decide (p = s)) l 0
  have h2 := ixS_any l s
  unfold ixS at h2 ⊢
  rw [← h2, decide_eq_false_iff_not]
  omega

set_option maxHeartbeats 8000000 in
theorem Strings_good (a b : List ByteArray) (h : a.length ≤ 1000000) : Ans Try.prog 24 [.sl (a.map encStr), .sl (b.map encStr)] (.bool (decide (a = b))) := by
  refine Classical.byCases (fun hl : a.length = b.length => ?_) fun hl => ?_
  case refine_2 =>
    rw [decide_eq_false (fun q => hl (by rw [q]))]
    refine good_run [(4, [4, 11, 12, 13, 14, 15, 16, 17, 18, 19, 20, 21, 22, 23, 24, 25], [])] mixed Try.func24 rfl Try.ntmps24 (rs := [.tmp 4]) rfl (by decide +kernel) (by kernel_rfl) rfl ?_
    rw [startE_eq 26 _ _ _ rfl rfl]
    set_option maxRecDepth 100000 in simp (maxSteps := 10000000) only [go_sem, Nat.reduceAdd, Nat.reduceSub, Nat.reduceMul, Nat.reduceLT, Nat.reduceLeDiff, Nat.reduceEqDiff, Nat.reduceMod, Nat.reduceDiv, Int.reduceNeg, Int.reduceLE, Int.reduceLT, Int.reduceToNat, Int.reduceEq, Int.reduceNe, ↓reduceIte,  show ¬ (a.length : Int) = (b.length : Int) by omega, not_false_eq_true, decide_true]
  refine good_run [(4, [4, 11, 12, 13, 14, 15, 16, 17, 18, 19, 20, 21, 22, 23, 24, 25], [])] mixed Try.func24 rfl Try.ntmps24 (rs := [.tmp 4]) rfl (by decide +kernel) (by kernel_rfl) rfl ?_
  rw [startE_eq 26 _ _ _ rfl rfl]
  set_option maxRecDepth 100000 in simp (maxSteps := 10000000) only [go_sem, Nat.reduceAdd, Nat.reduceSub, Nat.reduceMul, Nat.reduceLT, Nat.reduceLeDiff, Nat.reduceEqDiff, Nat.reduceMod, Nat.reduceDiv, Int.reduceNeg, Int.reduceLE, Int.reduceLT, Int.reduceToNat, Int.reduceEq, Int.reduceNe, ↓reduceIte,  show (a.length : Int) = (b.length : Int) by omega, not_true_eq_false, decide_false]
  refine loop_by ([4, 11, 12, 13, 14, 15, 16, 17, 18, 19, 20, 21, 22, 23, 24, 25], []) (fun i : Nat => [(.s 5, .int .i64 (i : Int))]) (fun i => a.length - i) (fun i => i ≤ a.length ∧ a.take i = b.take i) 0 rfl ⟨Nat.zero_le _, rfl⟩ rfl ?_
  rintro c' st' hst i ⟨hi, hf⟩ ih
  set_option maxRecDepth 100000 in simp (maxSteps := 10000000) only [go_sem, Nat.reduceAdd, Nat.reduceSub, Nat.reduceMul, Nat.reduceLT, Nat.reduceLeDiff, Nat.reduceEqDiff, Nat.reduceMod, Nat.reduceDiv, Int.reduceNeg, Int.reduceLE, Int.reduceLT, Int.reduceToNat, Int.reduceEq, Int.reduceNe, ↓reduceIte]
  refine ifI (fun hlt => ?_) fun hlt => ?_
  case refine_2 =>
    have : a = b := by
      rw [← List.take_length (l := a), ← List.take_length (l := b)]
      have e : i = a.length := by omega
      rw [← hl, ← e]; exact hf
    subst hst
    rw [decide_eq_true this]
    set_option maxRecDepth 100000 in simp (maxSteps := 10000000) only [go_sem, Nat.reduceAdd, Nat.reduceSub, Nat.reduceMul, Nat.reduceLT, Nat.reduceLeDiff, Nat.reduceEqDiff, Nat.reduceMod, Nat.reduceDiv, Int.reduceNeg, Int.reduceLE, Int.reduceLT, Int.reduceToNat, Int.reduceEq, Int.reduceNe, ↓reduceIte,  hlt]
  have hlt' : i < a.length := by omega
  have hlt2 : i < b.length := by omega
  set_option maxRecDepth 100000 in simp (maxSteps := 10000000) only [go_sem, Nat.reduceAdd, Nat.reduceSub, Nat.reduceMul, Nat.reduceLT, Nat.reduceLeDiff, Nat.reduceEqDiff, Nat.reduceMod, Nat.reduceDiv, Int.reduceNeg, Int.reduceLE, Int.reduceLT, Int.reduceToNat, Int.reduceEq, Int.reduceNe, ↓reduceIte,  hlt, hlt', hlt2]
  refine ⟨by decide +kernel, ?_⟩
  refine ifI (fun hn => ?_) fun hn => ?_
  · have hn' : ¬ nth a i = nth b i := by simpa using hn
    rw [decide_eq_false (fun q => hn' (by rw [q]))]
    set_option maxRecDepth 100000 in simp (maxSteps := 10000000) only [go_sem, Nat.reduceAdd, Nat.reduceSub, Nat.reduceMul, Nat.reduceLT, Nat.reduceLeDiff, Nat.reduceEqDiff, Nat.reduceMod, Nat.reduceDiv, Int.reduceNeg, Int.reduceLE, Int.reduceLT, Int.reduceToNat, Int.reduceEq, Int.reduceNe, ↓reduceIte]
  · have hn' : nth a i = nth b i := by simpa using hn
    set_option maxRecDepth 100000 in simp (maxSteps := 10000000) only [go_sem, Nat.reduceAdd, Nat.reduceSub, Nat.reduceMul, Nat.reduceLT, Nat.reduceLeDiff, Nat.reduceEqDiff, Nat.reduceMod, Nat.reduceDiv, Int.reduceNeg, Int.reduceLE, Int.reduceLT, Int.reduceToNat, Int.reduceEq, Int.reduceNe, ↓reduceIte]
    refine ih (i + 1) _ ⟨by omega, ?_⟩ (by omega) ?_
    · rw [take_snoc' hlt', take_snoc' hlt2, hf, hn']
    · set_option maxRecDepth 100000 in simp (maxSteps := 10000000) only [go_sem, Nat.reduceAdd, Nat.reduceSub, Nat.reduceMul, Nat.reduceLT, Nat.reduceLeDiff, Nat.reduceEqDiff, Nat.reduceMod, Nat.reduceDiv, Int.reduceNeg, Int.reduceLE, Int.reduceLT, Int.reduceToNat, Int.reduceEq, Int.reduceNe, ↓reduceIte,  wrap_succ (show i < 9223372036854775807 by omega)]

/-- Where the reference's row stands behind k libraries more. -/
def refS (k : Nat) : AV := if k = 0 then .ref 45 1 else .ref 68 k
def refO (k : Nat) (rows : List (List AV)) : AV := if k = 0 then .obj 1 9 1 false true rows else .dead 1
def refP (k : Nat) (rows : List (List AV)) : AV := if k = 0 then .any else .obj k 9 1 false true rows
theorem refS0 : refS 0 = .ref 45 1 := rfl
theorem refO0 (r : List (List AV)) : refO 0 r = .obj 1 9 1 false true r := rfl
theorem refP0 (r : List (List AV)) : refP 0 r = .any := rfl
theorem refS1 (k : Nat) : refS (k + 1) = .ref 68 (k + 1) := rfl
theorem refO1 (k : Nat) (r : List (List AV)) : refO (k + 1) r = .dead 1 := rfl
theorem refP1 (k : Nat) (r : List (List AV)) : refP (k + 1) r = .obj (k + 1) 9 1 false true r := rfl

set_option maxHeartbeats 16000000 in
theorem RefLibraries_good (d : Dir) (l : LList) (q : QName) (h : d.objects.length ≤ 1000000) (h1 : l.system.length ≤ 1000) (h2 : l.user.length ≤ 1000) :
    Ans Try.prog 23 [.agg (encDir d), .agg (encLL l), .agg (encQ q)] (.tup [.sl ((libsP d l q).map encStr), .int .i64 (libsE d l q)]) := by
  have z1 : ¬ (⟨#[42, 76, 73, 66, 76]⟩ : ByteArray) = ⟨#[]⟩ := by decide
  have z2 : ¬ (⟨#[42, 67, 85, 82, 76, 73, 66]⟩ : ByteArray) = ⟨#[]⟩ := by decide
  have z3 : ¬ (⟨#[42, 67, 85, 82, 76, 73, 66]⟩ : ByteArray) = ⟨#[42, 76, 73, 66, 76]⟩ := by decide
  have z4 : ¬ (⟨#[42, 85, 83, 82, 76, 73, 66, 76]⟩ : ByteArray) = ⟨#[]⟩ := by decide
  have z5 : ¬ (⟨#[42, 85, 83, 82, 76, 73, 66, 76]⟩ : ByteArray) = ⟨#[42, 76, 73, 66, 76]⟩ := by decide
  have z6 : ¬ (⟨#[42, 67, 85, 82, 76, 73, 66]⟩ : ByteArray) = ⟨#[42, 85, 83, 82, 76, 73, 66, 76]⟩ := by decide
  have cl := RefErr_good d l h h1 h2
  have fm := NameErrQ_good q
  refine Classical.byCases (fun k1 : (listE d l).2 = 0 => ?_) fun k1 => ?_
  case refine_2 =>
    have he : libsE d l q = (listE d l).2 := by rw [libsE, if_pos k1]
    refine libs_no (by rw [he]; exact k1) ?_
    rw [he]
    refine good_run [(14, [46, 47, 48, 49, 50, 51, 52, 53, 54, 55, 56, 57, 58, 59, 60, 61, 62, 63, 64, 65, 66, 67, 68], [67])] mixed Try.func23 rfl Try.ntmps23 (rs := [.tmp 6, .tmp 7]) rfl (by decide +kernel) (by kernel_rfl) rfl ?_
    rw [startE_eq 91 _ _ _ rfl rfl]
    set_option maxRecDepth 100000 in simp (maxSteps := 10000000) only [go_sem, Nat.reduceAdd, Nat.reduceSub, Nat.reduceMul, Nat.reduceLT, Nat.reduceLeDiff, Nat.reduceEqDiff, Nat.reduceMod, Nat.reduceDiv, Int.reduceNeg, Int.reduceLE, Int.reduceLT, Int.reduceToNat, Int.reduceEq, Int.reduceNe, ↓reduceIte]
    refine call_of (cl) ?_
    set_option maxRecDepth 100000 in simp (maxSteps := 10000000) only [go_sem, Nat.reduceAdd, Nat.reduceSub, Nat.reduceMul, Nat.reduceLT, Nat.reduceLeDiff, Nat.reduceEqDiff, Nat.reduceMod, Nat.reduceDiv, Int.reduceNeg, Int.reduceLE, Int.reduceLT, Int.reduceToNat, Int.reduceEq, Int.reduceNe, ↓reduceIte,  k1, not_false_eq_true, decide_true]
  refine Classical.byCases (fun k2 : nameE q = 0 => ?_) fun k2 => ?_
  case refine_2 =>
    have he : libsE d l q = nameE q := by rw [libsE, if_neg (not_not_intro k1), if_pos k2]
    refine libs_no (by rw [he]; exact k2) ?_
    rw [he]
    refine good_run [(14, [46, 47, 48, 49, 50, 51, 52, 53, 54, 55, 56, 57, 58, 59, 60, 61, 62, 63, 64, 65, 66, 67, 68], [67])] mixed Try.func23 rfl Try.ntmps23 (rs := [.tmp 6, .tmp 7]) rfl (by decide +kernel) (by kernel_rfl) rfl ?_
    rw [startE_eq 91 _ _ _ rfl rfl]
    set_option maxRecDepth 100000 in simp (maxSteps := 10000000) only [go_sem, Nat.reduceAdd, Nat.reduceSub, Nat.reduceMul, Nat.reduceLT, Nat.reduceLeDiff, Nat.reduceEqDiff, Nat.reduceMod, Nat.reduceDiv, Int.reduceNeg, Int.reduceLE, Int.reduceLT, Int.reduceToNat, Int.reduceEq, Int.reduceNe, ↓reduceIte]
    refine call_of (cl) ?_
    set_option maxRecDepth 100000 in simp (maxSteps := 10000000) only [go_sem, Nat.reduceAdd, Nat.reduceSub, Nat.reduceMul, Nat.reduceLT, Nat.reduceLeDiff, Nat.reduceEqDiff, Nat.reduceMod, Nat.reduceDiv, Int.reduceNeg, Int.reduceLE, Int.reduceLT, Int.reduceToNat, Int.reduceEq, Int.reduceNe, ↓reduceIte,  k1, not_true_eq_false, decide_false]
    refine call_of (fm) ?_
    set_option maxRecDepth 100000 in simp (maxSteps := 10000000) only [go_sem, Nat.reduceAdd, Nat.reduceSub, Nat.reduceMul, Nat.reduceLT, Nat.reduceLeDiff, Nat.reduceEqDiff, Nat.reduceMod, Nat.reduceDiv, Int.reduceNeg, Int.reduceLE, Int.reduceLT, Int.reduceToNat, Int.reduceEq, Int.reduceNe, ↓reduceIte,  k2, not_false_eq_true, decide_true]
  refine Classical.byCases (fun k3 : q.lib = ⟨#[]⟩ ∨ q.lib = sLIBL => ?_) fun k3 => ?_
  · have he : libsE d l q = 0 := by rw [libsE, if_neg (not_not_intro k1), if_neg (not_not_intro k2), if_pos k3]
    have hv : libsP d l q = accS (addS l.system l.current) l.user := by rw [libsP, if_pos he, libsV, if_pos k3]; rfl
    rw [he, hv]
    have hbase : (addS l.system l.current).length ≤ 1001 := by
      have := accS_len l.system [l.current]
      have e : accS l.system [l.current] = addS l.system l.current := rfl
      rw [e] at this; simp only [List.length_cons, List.length_nil] at this; omega
    have hac : ∀ i, i < l.user.length → (accS (addS l.system l.current) (l.user.take i)).length ≤ 2001 ∧ accS (addS l.system l.current) (l.user.take (i + 1)) = if ((accS (addS l.system l.current) (l.user.take i)).any fun p => decide (p = nth l.user i)) = true then accS (addS l.system l.current) (l.user.take i) else accS (addS l.system l.current) (l.user.take i) ++ [nth l.user i] := fun i hi => by
      have h5 := accS_len (addS l.system l.current) (l.user.take i)
      have h6 : (l.user.take i).length ≤ l.user.length := by rw [List.length_take]; omega
      refine ⟨by omega, ?_⟩
      rw [accS_snoc _ _ hi, addS, if_neg (user_ne k1 hi)]
    refine Classical.byCases (fun k9 : l.current = ⟨#[]⟩ ∨ (l.system.any fun p => decide (p = l.current)) = true => ?_) fun k9 => ?_
    · have hb : addS l.system l.current = l.system := by
        rw [addS]
        rcases k9 with k9 | k9
        · rw [if_pos k9]
        · rw [if_pos k9]; split <;> rfl
      rw [hb] at hac ⊢
      have ic := IndexOf_good l.system l.current (by omega)
      refine good_run [(14, [46, 47, 48, 49, 50, 51, 52, 53, 54, 55, 56, 57, 58, 59, 60, 61, 62, 63, 64, 65, 66, 67, 68], [67])] mixed Try.func23 rfl Try.ntmps23 (rs := [.tmp 6, .tmp 7]) rfl (by decide +kernel) (by kernel_rfl) rfl ?_
      rw [startE_eq 91 _ _ _ rfl rfl]
      set_option maxRecDepth 100000 in simp (maxSteps := 10000000) only [go_sem, Nat.reduceAdd, Nat.reduceSub, Nat.reduceMul, Nat.reduceLT, Nat.reduceLeDiff, Nat.reduceEqDiff, Nat.reduceMod, Nat.reduceDiv, Int.reduceNeg, Int.reduceLE, Int.reduceLT, Int.reduceToNat, Int.reduceEq, Int.reduceNe, ↓reduceIte]
      refine call_of (cl) ?_
      set_option maxRecDepth 100000 in simp (maxSteps := 10000000) only [go_sem, Nat.reduceAdd, Nat.reduceSub, Nat.reduceMul, Nat.reduceLT, Nat.reduceLeDiff, Nat.reduceEqDiff, Nat.reduceMod, Nat.reduceDiv, Int.reduceNeg, Int.reduceLE, Int.reduceLT, Int.reduceToNat, Int.reduceEq, Int.reduceNe, ↓reduceIte,  k1, not_true_eq_false, decide_false]
      refine call_of (fm) ?_
      set_option maxRecDepth 100000 in simp (maxSteps := 10000000) only [go_sem, Nat.reduceAdd, Nat.reduceSub, Nat.reduceMul, Nat.reduceLT, Nat.reduceLeDiff, Nat.reduceEqDiff, Nat.reduceMod, Nat.reduceDiv, Int.reduceNeg, Int.reduceLE, Int.reduceLT, Int.reduceToNat, Int.reduceEq, Int.reduceNe, ↓reduceIte,  k2, not_true_eq_false, decide_false]
      refine ifI (fun k4 => ?_) fun k4 => ?_
      case' refine_1 =>
        have k4' : q.lib = ⟨#[]⟩ := by simpa using k4
        set_option maxRecDepth 100000 in simp (maxSteps := 10000000) only [go_sem, Nat.reduceAdd, Nat.reduceSub, Nat.reduceMul, Nat.reduceLT, Nat.reduceLeDiff, Nat.reduceEqDiff, Nat.reduceMod, Nat.reduceDiv, Int.reduceNeg, Int.reduceLE, Int.reduceLT, Int.reduceToNat, Int.reduceEq, Int.reduceNe, ↓reduceIte,  k4', decide_true]
      case' refine_2 =>
        have k5 : q.lib = ⟨#[42, 76, 73, 66, 76]⟩ := k3.resolve_left (by simpa using k4)
        set_option maxRecDepth 100000 in simp (maxSteps := 10000000) only [go_sem, Nat.reduceAdd, Nat.reduceSub, Nat.reduceMul, Nat.reduceLT, Nat.reduceLeDiff, Nat.reduceEqDiff, Nat.reduceMod, Nat.reduceDiv, Int.reduceNeg, Int.reduceLE, Int.reduceLT, Int.reduceToNat, Int.reduceEq, Int.reduceNe, ↓reduceIte,  k4, k5, z1, decide_true]
      all_goals
        refine callM_of [] [68] (CopyM l.system (by omega)) ⟨rfl, rfl, rfl, by simp, by simp, by simp, by simp, rfl, rfl, rfl, onodup_of (l := [4]) rfl (by decide)⟩ ?_
        set_option maxRecDepth 100000 in simp (maxSteps := 10000000) only [go_sem, Nat.reduceAdd, Nat.reduceSub, Nat.reduceMul, Nat.reduceLT, Nat.reduceLeDiff, Nat.reduceEqDiff, Nat.reduceMod, Nat.reduceDiv, Int.reduceNeg, Int.reduceLE, Int.reduceLT, Int.reduceToNat, Int.reduceEq, Int.reduceNe, ↓reduceIte]
        refine ifI (fun k8 => ?_) fun k8 => ?_
        case' refine_1 =>
          have k8' : ¬ l.current = ⟨#[]⟩ := by simpa using k8
          have k8'' : ¬ ixS l.system l.current = -1 := fun z => by rw [(ixS_none _ _).1 z] at k9; exact k9.elim k8' (by decide)
          set_option maxRecDepth 100000 in simp (maxSteps := 10000000) only [go_sem, Nat.reduceAdd, Nat.reduceSub, Nat.reduceMul, Nat.reduceLT, Nat.reduceLeDiff, Nat.reduceEqDiff, Nat.reduceMod, Nat.reduceDiv, Int.reduceNeg, Int.reduceLE, Int.reduceLT, Int.reduceToNat, Int.reduceEq, Int.reduceNe, ↓reduceIte,  k8', not_false_eq_true, decide_true]
          refine call_of (ic) ?_
          set_option maxRecDepth 100000 in simp (maxSteps := 10000000) only [go_sem, Nat.reduceAdd, Nat.reduceSub, Nat.reduceMul, Nat.reduceLT, Nat.reduceLeDiff, Nat.reduceEqDiff, Nat.reduceMod, Nat.reduceDiv, Int.reduceNeg, Int.reduceLE, Int.reduceLT, Int.reduceToNat, Int.reduceEq, Int.reduceNe, ↓reduceIte,  k8'', decide_false]
        case' refine_2 =>
          set_option maxRecDepth 100000 in simp (maxSteps := 10000000) only [go_sem, Nat.reduceAdd, Nat.reduceSub, Nat.reduceMul, Nat.reduceLT, Nat.reduceLeDiff, Nat.reduceEqDiff, Nat.reduceMod, Nat.reduceDiv, Int.reduceNeg, Int.reduceLE, Int.reduceLT, Int.reduceToNat, Int.reduceEq, Int.reduceNe, ↓reduceIte,  k8]
        all_goals
          refine loop_by ([46, 47, 48, 49, 50, 51, 52, 53, 54, 55, 56, 57, 58, 59, 60, 61, 62, 63, 64, 65, 66, 67, 68], [67]) (fun x : Nat × Nat => [(.s 11, .int .i64 (x.1 : Int)), (.s 10, .ref 68 (x.2 + 1)), (.o 67, deadV x.2), (.o 68, .obj (x.2 + 1) 9 1 false true ((accS l.system (l.user.take x.1)).map encStr))]) (fun x => l.user.length - x.1) (fun x => x.1 ≤ l.user.length) (0, 0) rfl (Nat.zero_le _) rfl ?_
          rintro c' st' hst ⟨i, k⟩ hi ih
          simp only at hi
          set_option maxRecDepth 100000 in simp (maxSteps := 10000000) only [go_sem, Nat.reduceAdd, Nat.reduceSub, Nat.reduceMul, Nat.reduceLT, Nat.reduceLeDiff, Nat.reduceEqDiff, Nat.reduceMod, Nat.reduceDiv, Int.reduceNeg, Int.reduceLE, Int.reduceLT, Int.reduceToNat, Int.reduceEq, Int.reduceNe, ↓reduceIte]
          refine ifI (fun hlt => ?_) fun hlt => ?_
          case refine_2 =>
            subst hst
            have hie : l.user.take i = l.user := List.take_of_length_le (by omega)
            set_option maxRecDepth 100000 in simp (maxSteps := 10000000) only [go_sem, Nat.reduceAdd, Nat.reduceSub, Nat.reduceMul, Nat.reduceLT, Nat.reduceLeDiff, Nat.reduceEqDiff, Nat.reduceMod, Nat.reduceDiv, Int.reduceNeg, Int.reduceLE, Int.reduceLT, Int.reduceToNat, Int.reduceEq, Int.reduceNe, ↓reduceIte,  hlt, hie]
          have hlt' : i < l.user.length := by omega
          obtain ⟨hal2, hac2⟩ := hac i hlt'
          have hw : i < 9223372036854775807 := by omega
          have cs := IndexOf_good (accS l.system (l.user.take i)) (nth l.user i) (by omega)
          have es := encS_snoc (accS l.system (l.user.take i)) (nth l.user i)
          set_option maxRecDepth 100000 in simp (maxSteps := 10000000) only [go_sem, Nat.reduceAdd, Nat.reduceSub, Nat.reduceMul, Nat.reduceLT, Nat.reduceLeDiff, Nat.reduceEqDiff, Nat.reduceMod, Nat.reduceDiv, Int.reduceNeg, Int.reduceLE, Int.reduceLT, Int.reduceToNat, Int.reduceEq, Int.reduceNe, ↓reduceIte,  hlt]
          cases m2 : (accS l.system (l.user.take i)).any fun p => decide (p = nth l.user i) with
          | true =>
            have m3 : ¬ ixS (accS l.system (l.user.take i)) (nth l.user i) = -1 := fun z => by rw [(ixS_none _ _).1 z] at m2; cases m2
            rw [if_pos m2] at hac2
            refine call_of (cs) ?_
            set_option maxRecDepth 100000 in simp (maxSteps := 10000000) only [go_sem, Nat.reduceAdd, Nat.reduceSub, Nat.reduceMul, Nat.reduceLT, Nat.reduceLeDiff, Nat.reduceEqDiff, Nat.reduceMod, Nat.reduceDiv, Int.reduceNeg, Int.reduceLE, Int.reduceLT, Int.reduceToNat, Int.reduceEq, Int.reduceNe, ↓reduceIte,  m3, decide_false]
            refine ih (i + 1, k) _ (by simp only; omega) (by simp only; omega) ?_
            set_option maxRecDepth 100000 in simp (maxSteps := 10000000) only [go_sem, Nat.reduceAdd, Nat.reduceSub, Nat.reduceMul, Nat.reduceLT, Nat.reduceLeDiff, Nat.reduceEqDiff, Nat.reduceMod, Nat.reduceDiv, Int.reduceNeg, Int.reduceLE, Int.reduceLT, Int.reduceToNat, Int.reduceEq, Int.reduceNe, ↓reduceIte,  hac2, wrap_succ hw]
          | false =>
            have m3 : ixS (accS l.system (l.user.take i)) (nth l.user i) = -1 := (ixS_none _ _).2 m2
            rw [if_neg (by rw [m2]; decide)] at hac2
            refine call_of (cs) ?_
            set_option maxRecDepth 100000 in simp (maxSteps := 10000000) only [go_sem, Nat.reduceAdd, Nat.reduceSub, Nat.reduceMul, Nat.reduceLT, Nat.reduceLeDiff, Nat.reduceEqDiff, Nat.reduceMod, Nat.reduceDiv, Int.reduceNeg, Int.reduceLE, Int.reduceLT, Int.reduceToNat, Int.reduceEq, Int.reduceNe, ↓reduceIte,  m3, decide_true, hlt, es, show ((accS l.system (l.user.take i)).length + 1) * 16 ≤ 140737488355328 by omega, show (accS l.system (l.user.take i)).length + 1 ≤ maxLen by unfold maxLen; omega]
            refine ih (i + 1, k + 1) _ (by simp only; omega) (by simp only; omega) ?_
            set_option maxRecDepth 100000 in simp (maxSteps := 10000000) only [go_sem, Nat.reduceAdd, Nat.reduceSub, Nat.reduceMul, Nat.reduceLT, Nat.reduceLeDiff, Nat.reduceEqDiff, Nat.reduceMod, Nat.reduceDiv, Int.reduceNeg, Int.reduceLE, Int.reduceLT, Int.reduceToNat, Int.reduceEq, Int.reduceNe, ↓reduceIte,  hac2, wrap_succ hw]
    · have c1 : ¬ l.current = ⟨#[]⟩ := fun z => k9 (.inl z)
      have c2 : (l.system.any fun p => decide (p = l.current)) = false := by
        rw [← Bool.not_eq_true]; exact fun z => k9 (.inr z)
      have hb : addS l.system l.current = l.system ++ [l.current] := by rw [addS, if_neg c1, if_neg (by rw [c2]; decide)]
      rw [hb] at hac ⊢
      have ic := IndexOf_good l.system l.current (by omega)
      rw [(ixS_none _ _).2 c2] at ic
      have eb := encS_snoc l.system l.current
      refine good_run [(14, [46, 47, 48, 49, 50, 51, 52, 53, 54, 55, 56, 57, 58, 59, 60, 61, 62, 63, 64, 65, 66, 67, 68], [67])] mixed Try.func23 rfl Try.ntmps23 (rs := [.tmp 6, .tmp 7]) rfl (by decide +kernel) (by kernel_rfl) rfl ?_
      rw [startE_eq 91 _ _ _ rfl rfl]
      set_option maxRecDepth 100000 in simp (maxSteps := 10000000) only [go_sem, Nat.reduceAdd, Nat.reduceSub, Nat.reduceMul, Nat.reduceLT, Nat.reduceLeDiff, Nat.reduceEqDiff, Nat.reduceMod, Nat.reduceDiv, Int.reduceNeg, Int.reduceLE, Int.reduceLT, Int.reduceToNat, Int.reduceEq, Int.reduceNe, ↓reduceIte]
      refine call_of (cl) ?_
      set_option maxRecDepth 100000 in simp (maxSteps := 10000000) only [go_sem, Nat.reduceAdd, Nat.reduceSub, Nat.reduceMul, Nat.reduceLT, Nat.reduceLeDiff, Nat.reduceEqDiff, Nat.reduceMod, Nat.reduceDiv, Int.reduceNeg, Int.reduceLE, Int.reduceLT, Int.reduceToNat, Int.reduceEq, Int.reduceNe, ↓reduceIte,  k1, not_true_eq_false, decide_false]
      refine call_of (fm) ?_
      set_option maxRecDepth 100000 in simp (maxSteps := 10000000) only [go_sem, Nat.reduceAdd, Nat.reduceSub, Nat.reduceMul, Nat.reduceLT, Nat.reduceLeDiff, Nat.reduceEqDiff, Nat.reduceMod, Nat.reduceDiv, Int.reduceNeg, Int.reduceLE, Int.reduceLT, Int.reduceToNat, Int.reduceEq, Int.reduceNe, ↓reduceIte,  k2, not_true_eq_false, decide_false]
      refine ifI (fun k4 => ?_) fun k4 => ?_
      case' refine_1 =>
        have k4' : q.lib = ⟨#[]⟩ := by simpa using k4
        set_option maxRecDepth 100000 in simp (maxSteps := 10000000) only [go_sem, Nat.reduceAdd, Nat.reduceSub, Nat.reduceMul, Nat.reduceLT, Nat.reduceLeDiff, Nat.reduceEqDiff, Nat.reduceMod, Nat.reduceDiv, Int.reduceNeg, Int.reduceLE, Int.reduceLT, Int.reduceToNat, Int.reduceEq, Int.reduceNe, ↓reduceIte,  k4', decide_true]
      case' refine_2 =>
        have k5 : q.lib = ⟨#[42, 76, 73, 66, 76]⟩ := k3.resolve_left (by simpa using k4)
        set_option maxRecDepth 100000 in simp (maxSteps := 10000000) only [go_sem, Nat.reduceAdd, Nat.reduceSub, Nat.reduceMul, Nat.reduceLT, Nat.reduceLeDiff, Nat.reduceEqDiff, Nat.reduceMod, Nat.reduceDiv, Int.reduceNeg, Int.reduceLE, Int.reduceLT, Int.reduceToNat, Int.reduceEq, Int.reduceNe, ↓reduceIte,  k4, k5, z1, decide_true]
      all_goals
        refine callM_of [] [30] (CopyM l.system (by omega)) ⟨rfl, rfl, rfl, by simp, by simp, by simp, by simp, rfl, rfl, rfl, onodup_of (l := [4]) rfl (by decide)⟩ ?_
        set_option maxRecDepth 100000 in simp (maxSteps := 10000000) only [go_sem, Nat.reduceAdd, Nat.reduceSub, Nat.reduceMul, Nat.reduceLT, Nat.reduceLeDiff, Nat.reduceEqDiff, Nat.reduceMod, Nat.reduceDiv, Int.reduceNeg, Int.reduceLE, Int.reduceLT, Int.reduceToNat, Int.reduceEq, Int.reduceNe, ↓reduceIte,  c1, not_false_eq_true, decide_true]
        refine call_of (ic) ?_
        set_option maxRecDepth 100000 in simp (maxSteps := 10000000) only [go_sem, Nat.reduceAdd, Nat.reduceSub, Nat.reduceMul, Nat.reduceLT, Nat.reduceLeDiff, Nat.reduceEqDiff, Nat.reduceMod, Nat.reduceDiv, Int.reduceNeg, Int.reduceLE, Int.reduceLT, Int.reduceToNat, Int.reduceEq, Int.reduceNe, ↓reduceIte,  decide_true, eb, show (l.system.length + 1) * 16 ≤ 140737488355328 by omega, show l.system.length + 1 ≤ maxLen by unfold maxLen; omega]
        generalize l.system ++ [l.current] = B at *
        refine loop_by ([46, 47, 48, 49, 50, 51, 52, 53, 54, 55, 56, 57, 58, 59, 60, 61, 62, 63, 64, 65, 66, 67, 68], [67]) (fun x : Nat × Nat => [(.s 11, .int .i64 (x.1 : Int)), (.s 10, refS x.2), (.o 67, deadV x.2), (.o 45, refO x.2 ((accS B (l.user.take x.1)).map encStr)), (.o 68, refP x.2 ((accS B (l.user.take x.1)).map encStr))]) (fun x => l.user.length - x.1) (fun x => x.1 ≤ l.user.length) (0, 0) rfl (Nat.zero_le _) rfl ?_
        rintro c' st' hst ⟨i, k⟩ hi ih
        simp only at hi
        have ihh := show id _ from ih
        clear ih
        have hie : l.user.length ≤ i → l.user.take i = l.user := fun z => List.take_of_length_le z
        cases k with
        | zero =>
          set_option maxRecDepth 100000 in simp (maxSteps := 10000000) only [go_sem, Nat.reduceAdd, Nat.reduceSub, Nat.reduceMul, Nat.reduceLT, Nat.reduceLeDiff, Nat.reduceEqDiff, Nat.reduceMod, Nat.reduceDiv, Int.reduceNeg, Int.reduceLE, Int.reduceLT, Int.reduceToNat, Int.reduceEq, Int.reduceNe, ↓reduceIte,  refS0, refO0, refP0]
          refine ifI (fun hlt => ?_) fun hlt => ?_
          case refine_2 =>
            subst hst
            set_option maxRecDepth 100000 in simp (maxSteps := 10000000) only [go_sem, Nat.reduceAdd, Nat.reduceSub, Nat.reduceMul, Nat.reduceLT, Nat.reduceLeDiff, Nat.reduceEqDiff, Nat.reduceMod, Nat.reduceDiv, Int.reduceNeg, Int.reduceLE, Int.reduceLT, Int.reduceToNat, Int.reduceEq, Int.reduceNe, ↓reduceIte,  hlt, hie (by omega)]
          have hlt' : i < l.user.length := by omega
          obtain ⟨hal2, hac2⟩ := hac i hlt'
          have hw : i < 9223372036854775807 := by omega
          have cs := IndexOf_good (accS B (l.user.take i)) (nth l.user i) (by omega)
          have es := encS_snoc (accS B (l.user.take i)) (nth l.user i)
          set_option maxRecDepth 100000 in simp (maxSteps := 10000000) only [go_sem, Nat.reduceAdd, Nat.reduceSub, Nat.reduceMul, Nat.reduceLT, Nat.reduceLeDiff, Nat.reduceEqDiff, Nat.reduceMod, Nat.reduceDiv, Int.reduceNeg, Int.reduceLE, Int.reduceLT, Int.reduceToNat, Int.reduceEq, Int.reduceNe, ↓reduceIte,  hlt]
          cases m2 : (accS B (l.user.take i)).any fun p => decide (p = nth l.user i) with
          | true =>
            have m3 : ¬ ixS (accS B (l.user.take i)) (nth l.user i) = -1 := fun z => by rw [(ixS_none _ _).1 z] at m2; cases m2
            rw [if_pos m2] at hac2
            refine call_of (cs) ?_
            set_option maxRecDepth 100000 in simp (maxSteps := 10000000) only [go_sem, Nat.reduceAdd, Nat.reduceSub, Nat.reduceMul, Nat.reduceLT, Nat.reduceLeDiff, Nat.reduceEqDiff, Nat.reduceMod, Nat.reduceDiv, Int.reduceNeg, Int.reduceLE, Int.reduceLT, Int.reduceToNat, Int.reduceEq, Int.reduceNe, ↓reduceIte,  m3, decide_false]
            refine ihh (i + 1, 0) _ (by simp only; omega) (by simp only; omega) ?_
            set_option maxRecDepth 100000 in simp (maxSteps := 10000000) only [go_sem, Nat.reduceAdd, Nat.reduceSub, Nat.reduceMul, Nat.reduceLT, Nat.reduceLeDiff, Nat.reduceEqDiff, Nat.reduceMod, Nat.reduceDiv, Int.reduceNeg, Int.reduceLE, Int.reduceLT, Int.reduceToNat, Int.reduceEq, Int.reduceNe, ↓reduceIte,  hac2, wrap_succ hw, refS0, refO0, refP0]
          | false =>
            have m3 : ixS (accS B (l.user.take i)) (nth l.user i) = -1 := (ixS_none _ _).2 m2
            rw [if_neg (by rw [m2]; decide)] at hac2
            refine call_of (cs) ?_
            set_option maxRecDepth 100000 in simp (maxSteps := 10000000) only [go_sem, Nat.reduceAdd, Nat.reduceSub, Nat.reduceMul, Nat.reduceLT, Nat.reduceLeDiff, Nat.reduceEqDiff, Nat.reduceMod, Nat.reduceDiv, Int.reduceNeg, Int.reduceLE, Int.reduceLT, Int.reduceToNat, Int.reduceEq, Int.reduceNe, ↓reduceIte,  m3, decide_true, hlt, es, show ((accS B (l.user.take i)).length + 1) * 16 ≤ 140737488355328 by omega, show (accS B (l.user.take i)).length + 1 ≤ maxLen by unfold maxLen; omega]
            refine ihh (i + 1, 1) _ (by simp only; omega) (by simp only; omega) ?_
            set_option maxRecDepth 100000 in simp (maxSteps := 10000000) only [go_sem, Nat.reduceAdd, Nat.reduceSub, Nat.reduceMul, Nat.reduceLT, Nat.reduceLeDiff, Nat.reduceEqDiff, Nat.reduceMod, Nat.reduceDiv, Int.reduceNeg, Int.reduceLE, Int.reduceLT, Int.reduceToNat, Int.reduceEq, Int.reduceNe, ↓reduceIte,  hac2, wrap_succ hw, refS1, refO1, refP1]
        | succ k =>
          set_option maxRecDepth 100000 in simp (maxSteps := 10000000) only [go_sem, Nat.reduceAdd, Nat.reduceSub, Nat.reduceMul, Nat.reduceLT, Nat.reduceLeDiff, Nat.reduceEqDiff, Nat.reduceMod, Nat.reduceDiv, Int.reduceNeg, Int.reduceLE, Int.reduceLT, Int.reduceToNat, Int.reduceEq, Int.reduceNe, ↓reduceIte,  refS1, refO1, refP1]
          refine ifI (fun hlt => ?_) fun hlt => ?_
          case refine_2 =>
            subst hst
            set_option maxRecDepth 100000 in simp (maxSteps := 10000000) only [go_sem, Nat.reduceAdd, Nat.reduceSub, Nat.reduceMul, Nat.reduceLT, Nat.reduceLeDiff, Nat.reduceEqDiff, Nat.reduceMod, Nat.reduceDiv, Int.reduceNeg, Int.reduceLE, Int.reduceLT, Int.reduceToNat, Int.reduceEq, Int.reduceNe, ↓reduceIte,  hlt, hie (by omega)]
          have hlt' : i < l.user.length := by omega
          obtain ⟨hal2, hac2⟩ := hac i hlt'
          have hw : i < 9223372036854775807 := by omega
          have cs := IndexOf_good (accS B (l.user.take i)) (nth l.user i) (by omega)
          have es := encS_snoc (accS B (l.user.take i)) (nth l.user i)
          set_option maxRecDepth 100000 in simp (maxSteps := 10000000) only [go_sem, Nat.reduceAdd, Nat.reduceSub, Nat.reduceMul, Nat.reduceLT, Nat.reduceLeDiff, Nat.reduceEqDiff, Nat.reduceMod, Nat.reduceDiv, Int.reduceNeg, Int.reduceLE, Int.reduceLT, Int.reduceToNat, Int.reduceEq, Int.reduceNe, ↓reduceIte,  hlt]
          cases m2 : (accS B (l.user.take i)).any fun p => decide (p = nth l.user i) with
          | true =>
            have m3 : ¬ ixS (accS B (l.user.take i)) (nth l.user i) = -1 := fun z => by rw [(ixS_none _ _).1 z] at m2; cases m2
            rw [if_pos m2] at hac2
            refine call_of (cs) ?_
            set_option maxRecDepth 100000 in simp (maxSteps := 10000000) only [go_sem, Nat.reduceAdd, Nat.reduceSub, Nat.reduceMul, Nat.reduceLT, Nat.reduceLeDiff, Nat.reduceEqDiff, Nat.reduceMod, Nat.reduceDiv, Int.reduceNeg, Int.reduceLE, Int.reduceLT, Int.reduceToNat, Int.reduceEq, Int.reduceNe, ↓reduceIte,  m3, decide_false]
            refine ihh (i + 1, k + 1) _ (by simp only; omega) (by simp only; omega) ?_
            set_option maxRecDepth 100000 in simp (maxSteps := 10000000) only [go_sem, Nat.reduceAdd, Nat.reduceSub, Nat.reduceMul, Nat.reduceLT, Nat.reduceLeDiff, Nat.reduceEqDiff, Nat.reduceMod, Nat.reduceDiv, Int.reduceNeg, Int.reduceLE, Int.reduceLT, Int.reduceToNat, Int.reduceEq, Int.reduceNe, ↓reduceIte,  hac2, wrap_succ hw, refS1, refO1, refP1]
          | false =>
            have m3 : ixS (accS B (l.user.take i)) (nth l.user i) = -1 := (ixS_none _ _).2 m2
            rw [if_neg (by rw [m2]; decide)] at hac2
            refine call_of (cs) ?_
            set_option maxRecDepth 100000 in simp (maxSteps := 10000000) only [go_sem, Nat.reduceAdd, Nat.reduceSub, Nat.reduceMul, Nat.reduceLT, Nat.reduceLeDiff, Nat.reduceEqDiff, Nat.reduceMod, Nat.reduceDiv, Int.reduceNeg, Int.reduceLE, Int.reduceLT, Int.reduceToNat, Int.reduceEq, Int.reduceNe, ↓reduceIte,  m3, decide_true, hlt, es, show ((accS B (l.user.take i)).length + 1) * 16 ≤ 140737488355328 by omega, show (accS B (l.user.take i)).length + 1 ≤ maxLen by unfold maxLen; omega]
            refine ihh (i + 1, k + 2) _ (by simp only; omega) (by simp only; omega) ?_
            set_option maxRecDepth 100000 in simp (maxSteps := 10000000) only [go_sem, Nat.reduceAdd, Nat.reduceSub, Nat.reduceMul, Nat.reduceLT, Nat.reduceLeDiff, Nat.reduceEqDiff, Nat.reduceMod, Nat.reduceDiv, Int.reduceNeg, Int.reduceLE, Int.reduceLT, Int.reduceToNat, Int.reduceEq, Int.reduceNe, ↓reduceIte,  hac2, wrap_succ hw, refS1, refO1, refP1]
  have k4 : ¬ q.lib = ⟨#[]⟩ := fun z => k3 (.inl z)
  have k5 : ¬ q.lib = ⟨#[42, 76, 73, 66, 76]⟩ := fun z => k3 (.inr z)
  refine Classical.byCases (fun k6 : q.lib = sCUR => ?_) fun k6 => ?_
  · have k6' : q.lib = ⟨#[42, 67, 85, 82, 76, 73, 66]⟩ := k6
    refine Classical.byCases (fun k7 : l.current = ⟨#[]⟩ => ?_) fun k7 => ?_
    · have he : libsE d l q = 40 := by rw [libsE, if_neg (not_not_intro k1), if_neg (not_not_intro k2), if_neg k3, if_pos k6, if_pos k7]
      refine libs_no (by rw [he]; decide) ?_
      rw [he]
      refine good_run [(14, [46, 47, 48, 49, 50, 51, 52, 53, 54, 55, 56, 57, 58, 59, 60, 61, 62, 63, 64, 65, 66, 67, 68], [67])] mixed Try.func23 rfl Try.ntmps23 (rs := [.tmp 6, .tmp 7]) rfl (by decide +kernel) (by kernel_rfl) rfl ?_
      rw [startE_eq 91 _ _ _ rfl rfl]
      set_option maxRecDepth 100000 in simp (maxSteps := 10000000) only [go_sem, Nat.reduceAdd, Nat.reduceSub, Nat.reduceMul, Nat.reduceLT, Nat.reduceLeDiff, Nat.reduceEqDiff, Nat.reduceMod, Nat.reduceDiv, Int.reduceNeg, Int.reduceLE, Int.reduceLT, Int.reduceToNat, Int.reduceEq, Int.reduceNe, ↓reduceIte]
      refine call_of (cl) ?_
      set_option maxRecDepth 100000 in simp (maxSteps := 10000000) only [go_sem, Nat.reduceAdd, Nat.reduceSub, Nat.reduceMul, Nat.reduceLT, Nat.reduceLeDiff, Nat.reduceEqDiff, Nat.reduceMod, Nat.reduceDiv, Int.reduceNeg, Int.reduceLE, Int.reduceLT, Int.reduceToNat, Int.reduceEq, Int.reduceNe, ↓reduceIte,  k1, not_true_eq_false, decide_false]
      refine call_of (fm) ?_
      set_option maxRecDepth 100000 in simp (maxSteps := 10000000) only [go_sem, Nat.reduceAdd, Nat.reduceSub, Nat.reduceMul, Nat.reduceLT, Nat.reduceLeDiff, Nat.reduceEqDiff, Nat.reduceMod, Nat.reduceDiv, Int.reduceNeg, Int.reduceLE, Int.reduceLT, Int.reduceToNat, Int.reduceEq, Int.reduceNe, ↓reduceIte,  k2, not_true_eq_false, decide_false, k4, k5, k6', k7, z2, z3, z6, decide_true]
    · have he : libsE d l q = 0 := by rw [libsE, if_neg (not_not_intro k1), if_neg (not_not_intro k2), if_neg k3, if_pos k6, if_neg k7]
      have hv : libsP d l q = [l.current] := by rw [libsP, if_pos he, libsV, if_neg k3, if_pos k6]
      rw [he, hv]
      refine good_run [(14, [46, 47, 48, 49, 50, 51, 52, 53, 54, 55, 56, 57, 58, 59, 60, 61, 62, 63, 64, 65, 66, 67, 68], [67])] mixed Try.func23 rfl Try.ntmps23 (rs := [.tmp 6, .tmp 7]) rfl (by decide +kernel) (by kernel_rfl) rfl ?_
      rw [startE_eq 91 _ _ _ rfl rfl]
      set_option maxRecDepth 100000 in simp (maxSteps := 10000000) only [go_sem, Nat.reduceAdd, Nat.reduceSub, Nat.reduceMul, Nat.reduceLT, Nat.reduceLeDiff, Nat.reduceEqDiff, Nat.reduceMod, Nat.reduceDiv, Int.reduceNeg, Int.reduceLE, Int.reduceLT, Int.reduceToNat, Int.reduceEq, Int.reduceNe, ↓reduceIte]
      refine call_of (cl) ?_
      set_option maxRecDepth 100000 in simp (maxSteps := 10000000) only [go_sem, Nat.reduceAdd, Nat.reduceSub, Nat.reduceMul, Nat.reduceLT, Nat.reduceLeDiff, Nat.reduceEqDiff, Nat.reduceMod, Nat.reduceDiv, Int.reduceNeg, Int.reduceLE, Int.reduceLT, Int.reduceToNat, Int.reduceEq, Int.reduceNe, ↓reduceIte,  k1, not_true_eq_false, decide_false]
      refine call_of (fm) ?_
      set_option maxRecDepth 100000 in simp (maxSteps := 10000000) only [go_sem, Nat.reduceAdd, Nat.reduceSub, Nat.reduceMul, Nat.reduceLT, Nat.reduceLeDiff, Nat.reduceEqDiff, Nat.reduceMod, Nat.reduceDiv, Int.reduceNeg, Int.reduceLE, Int.reduceLT, Int.reduceToNat, Int.reduceEq, Int.reduceNe, ↓reduceIte,  k2, not_true_eq_false, decide_false, k4, k5, k6', k7, z2, z3, z6, decide_true]
  have k6' : ¬ q.lib = ⟨#[42, 67, 85, 82, 76, 73, 66]⟩ := k6
  refine Classical.byCases (fun k7 : q.lib = sUSR => ?_) fun k7 => ?_
  · have k7' : q.lib = ⟨#[42, 85, 83, 82, 76, 73, 66, 76]⟩ := k7
    have he : libsE d l q = 0 := by rw [libsE, if_neg (not_not_intro k1), if_neg (not_not_intro k2), if_neg k3, if_neg k6, if_pos k7]
    have hv : libsP d l q = l.user := by rw [libsP, if_pos he, libsV, if_neg k3, if_neg k6, if_pos k7]
    rw [he, hv]
    have cu := Copy_good l.user (by omega)
    refine good_run [(14, [46, 47, 48, 49, 50, 51, 52, 53, 54, 55, 56, 57, 58, 59, 60, 61, 62, 63, 64, 65, 66, 67, 68], [67])] mixed Try.func23 rfl Try.ntmps23 (rs := [.tmp 6, .tmp 7]) rfl (by decide +kernel) (by kernel_rfl) rfl ?_
    rw [startE_eq 91 _ _ _ rfl rfl]
    set_option maxRecDepth 100000 in simp (maxSteps := 10000000) only [go_sem, Nat.reduceAdd, Nat.reduceSub, Nat.reduceMul, Nat.reduceLT, Nat.reduceLeDiff, Nat.reduceEqDiff, Nat.reduceMod, Nat.reduceDiv, Int.reduceNeg, Int.reduceLE, Int.reduceLT, Int.reduceToNat, Int.reduceEq, Int.reduceNe, ↓reduceIte]
    refine call_of (cl) ?_
    set_option maxRecDepth 100000 in simp (maxSteps := 10000000) only [go_sem, Nat.reduceAdd, Nat.reduceSub, Nat.reduceMul, Nat.reduceLT, Nat.reduceLeDiff, Nat.reduceEqDiff, Nat.reduceMod, Nat.reduceDiv, Int.reduceNeg, Int.reduceLE, Int.reduceLT, Int.reduceToNat, Int.reduceEq, Int.reduceNe, ↓reduceIte,  k1, not_true_eq_false, decide_false]
    refine call_of (fm) ?_
    set_option maxRecDepth 100000 in simp (maxSteps := 10000000) only [go_sem, Nat.reduceAdd, Nat.reduceSub, Nat.reduceMul, Nat.reduceLT, Nat.reduceLeDiff, Nat.reduceEqDiff, Nat.reduceMod, Nat.reduceDiv, Int.reduceNeg, Int.reduceLE, Int.reduceLT, Int.reduceToNat, Int.reduceEq, Int.reduceNe, ↓reduceIte,  k2, not_true_eq_false, decide_false, k4, k5, k6', k7', z4, z5, decide_true]
    refine call_of (cu) ?_
    set_option maxRecDepth 100000 in simp (maxSteps := 10000000) only [go_sem, Nat.reduceAdd, Nat.reduceSub, Nat.reduceMul, Nat.reduceLT, Nat.reduceLeDiff, Nat.reduceEqDiff, Nat.reduceMod, Nat.reduceDiv, Int.reduceNeg, Int.reduceLE, Int.reduceLT, Int.reduceToNat, Int.reduceEq, Int.reduceNe, ↓reduceIte]
  have k7' : ¬ q.lib = ⟨#[42, 85, 83, 82, 76, 73, 66, 76]⟩ := k7
  have ex := HasLibrary_good d q.lib h
  cases k8 : hasLib d.objects q.lib with
  | false =>
    rw [k8] at ex
    have he : libsE d l q = 11 := by rw [libsE, if_neg (not_not_intro k1), if_neg (not_not_intro k2), if_neg k3, if_neg k6, if_neg k7, if_pos k8]
    refine libs_no (by rw [he]; decide) ?_
    rw [he]
    refine good_run [(14, [46, 47, 48, 49, 50, 51, 52, 53, 54, 55, 56, 57, 58, 59, 60, 61, 62, 63, 64, 65, 66, 67, 68], [67])] mixed Try.func23 rfl Try.ntmps23 (rs := [.tmp 6, .tmp 7]) rfl (by decide +kernel) (by kernel_rfl) rfl ?_
    rw [startE_eq 91 _ _ _ rfl rfl]
    set_option maxRecDepth 100000 in simp (maxSteps := 10000000) only [go_sem, Nat.reduceAdd, Nat.reduceSub, Nat.reduceMul, Nat.reduceLT, Nat.reduceLeDiff, Nat.reduceEqDiff, Nat.reduceMod, Nat.reduceDiv, Int.reduceNeg, Int.reduceLE, Int.reduceLT, Int.reduceToNat, Int.reduceEq, Int.reduceNe, ↓reduceIte]
    refine call_of (cl) ?_
    set_option maxRecDepth 100000 in simp (maxSteps := 10000000) only [go_sem, Nat.reduceAdd, Nat.reduceSub, Nat.reduceMul, Nat.reduceLT, Nat.reduceLeDiff, Nat.reduceEqDiff, Nat.reduceMod, Nat.reduceDiv, Int.reduceNeg, Int.reduceLE, Int.reduceLT, Int.reduceToNat, Int.reduceEq, Int.reduceNe, ↓reduceIte,  k1, not_true_eq_false, decide_false]
    refine call_of (fm) ?_
    set_option maxRecDepth 100000 in simp (maxSteps := 10000000) only [go_sem, Nat.reduceAdd, Nat.reduceSub, Nat.reduceMul, Nat.reduceLT, Nat.reduceLeDiff, Nat.reduceEqDiff, Nat.reduceMod, Nat.reduceDiv, Int.reduceNeg, Int.reduceLE, Int.reduceLT, Int.reduceToNat, Int.reduceEq, Int.reduceNe, ↓reduceIte,  k2, not_true_eq_false, decide_false, k4, k5, k6', k7', z4, z5, z6, decide_true]
    refine call_of (ex) ?_
    set_option maxRecDepth 100000 in simp (maxSteps := 10000000) only [go_sem, Nat.reduceAdd, Nat.reduceSub, Nat.reduceMul, Nat.reduceLT, Nat.reduceLeDiff, Nat.reduceEqDiff, Nat.reduceMod, Nat.reduceDiv, Int.reduceNeg, Int.reduceLE, Int.reduceLT, Int.reduceToNat, Int.reduceEq, Int.reduceNe, ↓reduceIte,  Bool.not_false]
  | true =>
    rw [k8] at ex
    have he : libsE d l q = 0 := by rw [libsE, if_neg (not_not_intro k1), if_neg (not_not_intro k2), if_neg k3, if_neg k6, if_neg k7, if_neg (by rw [k8]; decide)]
    have hv : libsP d l q = [q.lib] := by rw [libsP, if_pos he, libsV, if_neg k3, if_neg k6, if_neg k7]
    rw [he, hv]
    refine good_run [(14, [46, 47, 48, 49, 50, 51, 52, 53, 54, 55, 56, 57, 58, 59, 60, 61, 62, 63, 64, 65, 66, 67, 68], [67])] mixed Try.func23 rfl Try.ntmps23 (rs := [.tmp 6, .tmp 7]) rfl (by decide +kernel) (by kernel_rfl) rfl ?_
    rw [startE_eq 91 _ _ _ rfl rfl]
    set_option maxRecDepth 100000 in simp (maxSteps := 10000000) only [go_sem, Nat.reduceAdd, Nat.reduceSub, Nat.reduceMul, Nat.reduceLT, Nat.reduceLeDiff, Nat.reduceEqDiff, Nat.reduceMod, Nat.reduceDiv, Int.reduceNeg, Int.reduceLE, Int.reduceLT, Int.reduceToNat, Int.reduceEq, Int.reduceNe, ↓reduceIte]
    refine call_of (cl) ?_
    set_option maxRecDepth 100000 in simp (maxSteps := 10000000) only [go_sem, Nat.reduceAdd, Nat.reduceSub, Nat.reduceMul, Nat.reduceLT, Nat.reduceLeDiff, Nat.reduceEqDiff, Nat.reduceMod, Nat.reduceDiv, Int.reduceNeg, Int.reduceLE, Int.reduceLT, Int.reduceToNat, Int.reduceEq, Int.reduceNe, ↓reduceIte,  k1, not_true_eq_false, decide_false]
    refine call_of (fm) ?_
    set_option maxRecDepth 100000 in simp (maxSteps := 10000000) only [go_sem, Nat.reduceAdd, Nat.reduceSub, Nat.reduceMul, Nat.reduceLT, Nat.reduceLeDiff, Nat.reduceEqDiff, Nat.reduceMod, Nat.reduceDiv, Int.reduceNeg, Int.reduceLE, Int.reduceLT, Int.reduceToNat, Int.reduceEq, Int.reduceNe, ↓reduceIte,  k2, not_true_eq_false, decide_false, k4, k5, k6', k7', z4, z5, z6, decide_true]
    refine call_of (ex) ?_
    set_option maxRecDepth 100000 in simp (maxSteps := 10000000) only [go_sem, Nat.reduceAdd, Nat.reduceSub, Nat.reduceMul, Nat.reduceLT, Nat.reduceLeDiff, Nat.reduceEqDiff, Nat.reduceMod, Nat.reduceDiv, Int.reduceNeg, Int.reduceLE, Int.reduceLT, Int.reduceToNat, Int.reduceEq, Int.reduceNe, ↓reduceIte,  Bool.not_true]
end Go.Proofs.Ytppjmigiogddpaa.C08
