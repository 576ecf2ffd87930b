
import Derived.Test.YtppjmigiogddpaaGreatE7
namespace Go.Proofs.YtppjmigiogddpaaGreat.C08
open Go Go.Proofs Go.Proofs.YtppjmigiogddpaaGreat.Ab
set_option linter.unusedSimpArgs false
set_option linter.unusedVariables false
attribute [local congr] ite_ctx

theorem take_snoc' {α : Type} [Inhabited α] {l : List α} {i : Nat} (h : i < l.length) : l.take (i + 1) = l.take i ++ [nth l i] := by
  rw [nth_eq h, List.take_succ_eq_append_getElem h]
/-- A library behind others, if it is not there yet. -/
def addS (out : List ByteArray) (s : ByteArray) : List ByteArray := if s = ⟨#[]⟩ then out else if (out.any fun p => decide (p = s)) = true then out else out ++ [s]
def accS (sys l : List ByteArray) : List ByteArray := l.foldl addS sys
theorem accS_snoc (sys l : List ByteArray) {i : Nat} (h : i < l.length) : accS sys (l.take (i + 1)) = addS (accS sys (l.take i)) (nth l i) := by
  rw [take_snoc' h, accS, List.foldl_append]; rfl
theorem encS_snoc (l : List ByteArray) (s : ByteArray) : List.map encStr l ++ [[.str s]] = List.map encStr (l ++ [s]) := by rw [List.map_append]; rfl
theorem accS_len (sys : List ByteArray) : ∀ l : List ByteArray, (accS sys l).length ≤ sys.length + l.length := by
  intro l
  unfold accS
  induction l generalizing sys with
  | nil => exact Nat.le_refl _
  | cons a l ih =>
    rw [List.foldl_cons]
    have h1 := ih (addS sys a)
    have h2 : (addS sys a).length ≤ sys.length + 1 := by
      rw [addS]; split
      · omega
      split
      · omega
      · rw [List.length_append]; exact Nat.le_refl _
    rw [List.length_cons]; omega

def libsE (d : Dir) (l : LList) (q : QName) : Int := if ¬ (listE d l).2 = 0 then (listE d l).2 else if ¬ nameE q = 0 then nameE q else
  if q.lib = ⟨#[]⟩ ∨ q.lib = sLIBL then 0 else if q.lib = sCUR then (if l.current = ⟨#[]⟩ then 40 else 0) else if q.lib = sUSR then 0 else if hasLib d.objects q.lib = false then 11 else 0
def libsV (l : LList) (q : QName) : List ByteArray := if q.lib = ⟨#[]⟩ ∨ q.lib = sLIBL then accS l.system (l.current :: l.user) else if q.lib = sCUR then [l.current] else if q.lib = sUSR then l.user else [q.lib]
def libsP (d : Dir) (l : LList) (q : QName) : List ByteArray := if libsE d l q = 0 then libsV l q else []

theorem libs_no {f : Nat} {args : List AV} {d : Dir} {l : LList} {q : QName} (h : ¬ libsE d l q = 0) (k : Ans Tryz.prog f args (.tup [.nils, .int .i64 (libsE d l q)])) : Ans Tryz.prog f args (.tup [.sl ((libsP d l q).map encStr), .int .i64 (libsE d l q)]) := by
  rw [libsP, if_neg h]
  exact Ans.le k (.tup' (.cons .nils (.cons (.refl _) .nil))) rfl

set_option maxHeartbeats 8000000 in
theorem LibrariesFor_good (d : Dir) (l : LList) (q : QName) (h : d.objects.length ≤ 1000000) (h1 : l.system.length ≤ 1000) (h2 : l.user.length ≤ 1000) (h3 : q.lib.size ≤ 1000) (h4 : q.name.size ≤ 1000) :
    Ans Tryz.prog 34 [.agg (encDir d), .agg (encLL l), .agg (encQ q)] (.tup [.sl ((libsP d l q).map encStr), .int .i64 (libsE d l q)]) := by
  have z1 : ¬ (⟨#[42, 76, 73, 66, 76]⟩ : ByteArray) = ⟨#[]⟩ := by decide
  have z2 : ¬ (⟨#[42, 67, 85, 82, 76, 73, 66]⟩ : ByteArray) = ⟨#[]⟩ := by decide
  have z3 : ¬ (⟨#[42, 67, 85, 82, 76, 73, 66]⟩ : ByteArray) = ⟨#[42, 76, 73, 66, 76]⟩ := by decide
  have z4 : ¬ (⟨#[42, 85, 83, 82, 76, 73, 66, 76]⟩ : ByteArray) = ⟨#[]⟩ := by decide
  have z5 : ¬ (⟨#[42, 85, 83, 82, 76, 73, 66, 76]⟩ : ByteArray) = ⟨#[42, 76, 73, 66, 76]⟩ := by decide
  have z6 : ¬ (⟨#[42, 85, 83, 82, 76, 73, 66, 76]⟩ : ByteArray) = ⟨#[42, 67, 85, 82, 76, 73, 66]⟩ := by decide
  have cl := CheckList_good d l h h1 h2
  have fm := FormatName_good q h3 h4
  refine Classical.byCases (fun k1 : (listE d l).2 = 0 => ?_) fun k1 => ?_
  case refine_2 =>
    have he : libsE d l q = (listE d l).2 := by rw [libsE, if_pos k1]
    refine libs_no (by rw [he]; exact k1) ?_
    rw [he]
    refine good_run [(12, [14, 48, 49, 50, 51, 52, 53, 54, 55, 56, 57, 58, 59, 60, 61, 62, 63], [61])] mixed Tryz.func34 rfl Tryz.ntmps34 (rs := [.tmp 6, .tmp 7]) rfl (by decide +kernel) (by kernel_rfl) rfl ?_
    rw [startE_eq 86 _ _ _ rfl rfl]
    set_option maxRecDepth 100000 in simp (maxSteps := 10000000) only [go_sem, Nat.reduceAdd, Nat.reduceSub, Nat.reduceMul, Nat.reduceLT, Nat.reduceLeDiff, Nat.reduceEqDiff, Nat.reduceMod, Nat.reduceDiv, Int.reduceNeg, Int.reduceLE, Int.reduceLT, Int.reduceToNat, Int.reduceEq, Int.reduceNe, ↓reduceIte]
    refine call_of (cl) ?_
    set_option maxRecDepth 100000 in simp (maxSteps := 10000000) only [go_sem, Nat.reduceAdd, Nat.reduceSub, Nat.reduceMul, Nat.reduceLT, Nat.reduceLeDiff, Nat.reduceEqDiff, Nat.reduceMod, Nat.reduceDiv, Int.reduceNeg, Int.reduceLE, Int.reduceLT, Int.reduceToNat, Int.reduceEq, Int.reduceNe, ↓reduceIte,  k1, not_false_eq_true, decide_true]
  refine Classical.byCases (fun k2 : nameE q = 0 => ?_) fun k2 => ?_
  case refine_2 =>
    have he : libsE d l q = nameE q := by rw [libsE, if_neg (not_not_intro k1), if_pos k2]
    refine libs_no (by rw [he]; exact k2) ?_
    rw [he]
    refine good_run [(12, [14, 48, 49, 50, 51, 52, 53, 54, 55, 56, 57, 58, 59, 60, 61, 62, 63], [61])] mixed Tryz.func34 rfl Tryz.ntmps34 (rs := [.tmp 6, .tmp 7]) rfl (by decide +kernel) (by kernel_rfl) rfl ?_
    rw [startE_eq 86 _ _ _ rfl rfl]
    set_option maxRecDepth 100000 in simp (maxSteps := 10000000) only [go_sem, Nat.reduceAdd, Nat.reduceSub, Nat.reduceMul, Nat.reduceLT, Nat.reduceLeDiff, Nat.reduceEqDiff, Nat.reduceMod, Nat.reduceDiv, Int.reduceNeg, Int.reduceLE, Int.reduceLT, Int.reduceToNat, Int.reduceEq, Int.reduceNe, ↓reduceIte]
    refine call_of (cl) ?_
    set_option maxRecDepth 100000 in simp (maxSteps := 10000000) only [go_sem, Nat.reduceAdd, Nat.reduceSub, Nat.reduceMul, Nat.reduceLT, Nat.reduceLeDiff, Nat.reduceEqDiff, Nat.reduceMod, Nat.reduceDiv, Int.reduceNeg, Int.reduceLE, Int.reduceLT, Int.reduceToNat, Int.reduceEq, Int.reduceNe, ↓reduceIte,  k1, not_true_eq_false, decide_false]
    refine call_of (fm) ?_
    set_option maxRecDepth 100000 in simp (maxSteps := 10000000) only [go_sem, Nat.reduceAdd, Nat.reduceSub, Nat.reduceMul, Nat.reduceLT, Nat.reduceLeDiff, Nat.reduceEqDiff, Nat.reduceMod, Nat.reduceDiv, Int.reduceNeg, Int.reduceLE, Int.reduceLT, Int.reduceToNat, Int.reduceEq, Int.reduceNe, ↓reduceIte,  k2, not_false_eq_true, decide_true]
  refine Classical.byCases (fun k3 : q.lib = ⟨#[]⟩ ∨ q.lib = sLIBL => ?_) fun k3 => ?_
  · have he : libsE d l q = 0 := by rw [libsE, if_neg (not_not_intro k1), if_neg (not_not_intro k2), if_pos k3]
    have hv : libsP d l q = accS l.system (l.current :: l.user) := by rw [libsP, if_pos he, libsV, if_pos k3]
    rw [he, hv]
    have hlen := accS_len l.system (l.current :: l.user)
    have hg : ∀ i, i < (l.current :: l.user).length → ([AV.str l.current] :: List.map encStr l.user)[i]? = some (encStr (nth (l.current :: l.user) i)) := fun i hi => map_at encStr hi
    have hl1 : (l.current :: l.user).length = l.user.length + 1 := rfl
    refine good_run [(12, [14, 48, 49, 50, 51, 52, 53, 54, 55, 56, 57, 58, 59, 60, 61, 62, 63], [61])] mixed Tryz.func34 rfl Tryz.ntmps34 (rs := [.tmp 6, .tmp 7]) rfl (by decide +kernel) (by kernel_rfl) rfl ?_
    rw [startE_eq 86 _ _ _ rfl rfl]
    set_option maxRecDepth 100000 in simp (maxSteps := 10000000) only [go_sem, Nat.reduceAdd, Nat.reduceSub, Nat.reduceMul, Nat.reduceLT, Nat.reduceLeDiff, Nat.reduceEqDiff, Nat.reduceMod, Nat.reduceDiv, Int.reduceNeg, Int.reduceLE, Int.reduceLT, Int.reduceToNat, Int.reduceEq, Int.reduceNe, ↓reduceIte]
    refine call_of (cl) ?_
    set_option maxRecDepth 100000 in simp (maxSteps := 10000000) only [go_sem, Nat.reduceAdd, Nat.reduceSub, Nat.reduceMul, Nat.reduceLT, Nat.reduceLeDiff, Nat.reduceEqDiff, Nat.reduceMod, Nat.reduceDiv, Int.reduceNeg, Int.reduceLE, Int.reduceLT, Int.reduceToNat, Int.reduceEq, Int.reduceNe, ↓reduceIte,  k1, not_true_eq_false, decide_false]
    refine call_of (fm) ?_
    set_option maxRecDepth 100000 in simp (maxSteps := 10000000) only [go_sem, Nat.reduceAdd, Nat.reduceSub, Nat.reduceMul, Nat.reduceLT, Nat.reduceLeDiff, Nat.reduceEqDiff, Nat.reduceMod, Nat.reduceDiv, Int.reduceNeg, Int.reduceLE, Int.reduceLT, Int.reduceToNat, Int.reduceEq, Int.reduceNe, ↓reduceIte,  k2, not_true_eq_false, decide_false]
    refine ifI (fun k4 => ?_) fun k4 => ?_
    case' refine_1 =>
      have k4' : q.lib = ⟨#[]⟩ := by simpa using k4
      set_option maxRecDepth 100000 in simp (maxSteps := 10000000) only [go_sem, Nat.reduceAdd, Nat.reduceSub, Nat.reduceMul, Nat.reduceLT, Nat.reduceLeDiff, Nat.reduceEqDiff, Nat.reduceMod, Nat.reduceDiv, Int.reduceNeg, Int.reduceLE, Int.reduceLT, Int.reduceToNat, Int.reduceEq, Int.reduceNe, ↓reduceIte,  k4', decide_true]
    case' refine_2 =>
      have k5 : q.lib = ⟨#[42, 76, 73, 66, 76]⟩ := k3.resolve_left (by simpa using k4)
      set_option maxRecDepth 100000 in simp (maxSteps := 10000000) only [go_sem, Nat.reduceAdd, Nat.reduceSub, Nat.reduceMul, Nat.reduceLT, Nat.reduceLeDiff, Nat.reduceEqDiff, Nat.reduceMod, Nat.reduceDiv, Int.reduceNeg, Int.reduceLE, Int.reduceLT, Int.reduceToNat, Int.reduceEq, Int.reduceNe, ↓reduceIte,  k4, k5, z1, decide_true]
    all_goals
      refine callM_of [] [62] (CloneS l.system (by omega)) ⟨rfl, rfl, rfl, by simp, by simp, by simp, by simp, rfl, rfl, rfl, onodup_of (l := [7]) rfl (by decide)⟩ ?_
      set_option maxRecDepth 100000 in simp (maxSteps := 10000000) only [go_sem, Nat.reduceAdd, Nat.reduceSub, Nat.reduceMul, Nat.reduceLT, Nat.reduceLeDiff, Nat.reduceEqDiff, Nat.reduceMod, Nat.reduceDiv, Int.reduceNeg, Int.reduceLE, Int.reduceLT, Int.reduceToNat, Int.reduceEq, Int.reduceNe, ↓reduceIte,  show (1 + l.user.length) * 16 ≤ 140737488355328 by omega, show 1 + l.user.length ≤ maxLen by unfold maxLen; omega, List.length_cons]
      generalize hal : l.current :: l.user = al at *
      refine loop_by ([14, 48, 49, 50, 51, 52, 53, 54, 55, 56, 57, 58, 59, 60, 61, 62, 63], [61]) (fun x : Nat × Nat => [(.s 47, .int .i64 (x.1 : Int)), (.s 12, .ref 62 (x.2 + 1)), (.o 61, deadV x.2), (.o 62, .obj (x.2 + 1) 9 1 false true ((accS l.system (al.take x.1)).map encStr))]) (fun x => al.length - x.1) (fun x => x.1 ≤ al.length) (0, 0) rfl (Nat.zero_le _) rfl ?_
      rintro c' st' hst ⟨i, k⟩ hi ih
      simp only at hi
      set_option maxRecDepth 100000 in simp (maxSteps := 10000000) only [go_sem, Nat.reduceAdd, Nat.reduceSub, Nat.reduceMul, Nat.reduceLT, Nat.reduceLeDiff, Nat.reduceEqDiff, Nat.reduceMod, Nat.reduceDiv, Int.reduceNeg, Int.reduceLE, Int.reduceLT, Int.reduceToNat, Int.reduceEq, Int.reduceNe, ↓reduceIte]
      refine ifI (fun hlt => ?_) fun hlt => ?_
      case refine_2 =>
        subst hst
        have hie : al.take i = al := List.take_of_length_le (by omega)
        set_option maxRecDepth 100000 in simp (maxSteps := 10000000) only [go_sem, Nat.reduceAdd, Nat.reduceSub, Nat.reduceMul, Nat.reduceLT, Nat.reduceLeDiff, Nat.reduceEqDiff, Nat.reduceMod, Nat.reduceDiv, Int.reduceNeg, Int.reduceLE, Int.reduceLT, Int.reduceToNat, Int.reduceEq, Int.reduceNe, ↓reduceIte,  hlt, hie]
      have hlt' : i < al.length := by omega
      have hgi := hg i hlt'
      have hac := accS_snoc l.system al hlt'
      have hal2 := accS_len l.system (al.take i)
      have htl : (al.take i).length ≤ al.length := by rw [List.length_take]; omega
      have hw : i < 9223372036854775807 := by omega
      have cs := ContainsS_good (accS l.system (al.take i)) (nth al i) (by omega)
      have es := encS_snoc (accS l.system (al.take i)) (nth al i)
      refine Classical.byCases (fun m1 : nth al i = ⟨#[]⟩ => ?_) fun m1 => ?_
      · rw [addS, if_pos m1] at hac
        set_option maxRecDepth 100000 in simp (maxSteps := 10000000) only [go_sem, Nat.reduceAdd, Nat.reduceSub, Nat.reduceMul, Nat.reduceLT, Nat.reduceLeDiff, Nat.reduceEqDiff, Nat.reduceMod, Nat.reduceDiv, Int.reduceNeg, Int.reduceLE, Int.reduceLT, Int.reduceToNat, Int.reduceEq, Int.reduceNe, ↓reduceIte,  hlt, hgi, m1, not_true_eq_false, decide_false]
        refine ih (i + 1, k) _ (by simp only; omega) (by simp only; omega) ?_
        set_option maxRecDepth 100000 in simp (maxSteps := 10000000) only [go_sem, Nat.reduceAdd, Nat.reduceSub, Nat.reduceMul, Nat.reduceLT, Nat.reduceLeDiff, Nat.reduceEqDiff, Nat.reduceMod, Nat.reduceDiv, Int.reduceNeg, Int.reduceLE, Int.reduceLT, Int.reduceToNat, Int.reduceEq, Int.reduceNe, ↓reduceIte,  hac, wrap_succ hw]
      rw [addS, if_neg m1] at hac
      set_option maxRecDepth 100000 in simp (maxSteps := 10000000) only [go_sem, Nat.reduceAdd, Nat.reduceSub, Nat.reduceMul, Nat.reduceLT, Nat.reduceLeDiff, Nat.reduceEqDiff, Nat.reduceMod, Nat.reduceDiv, Int.reduceNeg, Int.reduceLE, Int.reduceLT, Int.reduceToNat, Int.reduceEq, Int.reduceNe, ↓reduceIte,  hlt, hgi, m1, not_false_eq_true, decide_true]
      cases m2 : (accS l.system (al.take i)).any fun p => decide (p = nth al i) with
      | true =>
        rw [m2] at cs
        rw [if_pos m2] at hac
        refine call_of (cs) ?_
        set_option maxRecDepth 100000 in simp (maxSteps := 10000000) only [go_sem, Nat.reduceAdd, Nat.reduceSub, Nat.reduceMul, Nat.reduceLT, Nat.reduceLeDiff, Nat.reduceEqDiff, Nat.reduceMod, Nat.reduceDiv, Int.reduceNeg, Int.reduceLE, Int.reduceLT, Int.reduceToNat, Int.reduceEq, Int.reduceNe, ↓reduceIte,  Bool.not_true]
        refine ih (i + 1, k) _ (by simp only; omega) (by simp only; omega) ?_
        set_option maxRecDepth 100000 in simp (maxSteps := 10000000) only [go_sem, Nat.reduceAdd, Nat.reduceSub, Nat.reduceMul, Nat.reduceLT, Nat.reduceLeDiff, Nat.reduceEqDiff, Nat.reduceMod, Nat.reduceDiv, Int.reduceNeg, Int.reduceLE, Int.reduceLT, Int.reduceToNat, Int.reduceEq, Int.reduceNe, ↓reduceIte,  hac, wrap_succ hw]
      | false =>
        rw [m2] at cs
        rw [if_neg (by rw [m2]; decide)] at hac
        refine call_of (cs) ?_
        set_option maxRecDepth 100000 in simp (maxSteps := 10000000) only [go_sem, Nat.reduceAdd, Nat.reduceSub, Nat.reduceMul, Nat.reduceLT, Nat.reduceLeDiff, Nat.reduceEqDiff, Nat.reduceMod, Nat.reduceDiv, Int.reduceNeg, Int.reduceLE, Int.reduceLT, Int.reduceToNat, Int.reduceEq, Int.reduceNe, ↓reduceIte,  Bool.not_false, es, show ((accS l.system (al.take i)).length + 1) * 16 ≤ 140737488355328 by omega, show (accS l.system (al.take i)).length + 1 ≤ maxLen by unfold maxLen; omega]
        refine ih (i + 1, k + 1) _ (by simp only; omega) (by simp only; omega) ?_
        set_option maxRecDepth 100000 in simp (maxSteps := 10000000) only [go_sem, Nat.reduceAdd, Nat.reduceSub, Nat.reduceMul, Nat.reduceLT, Nat.reduceLeDiff, Nat.reduceEqDiff, Nat.reduceMod, Nat.reduceDiv, Int.reduceNeg, Int.reduceLE, Int.reduceLT, Int.reduceToNat, Int.reduceEq, Int.reduceNe, ↓reduceIte,  hac, wrap_succ hw]
  have k4 : ¬ q.lib = ⟨#[]⟩ := fun z => k3 (.inl z)
  have k5 : ¬ q.lib = ⟨#[42, 76, 73, 66, 76]⟩ := fun z => k3 (.inr z)
  refine Classical.byCases (fun k6 : q.lib = sCUR => ?_) fun k6 => ?_
  · have k6' : q.lib = ⟨#[42, 67, 85, 82, 76, 73, 66]⟩ := k6
    refine Classical.byCases (fun k7 : l.current = ⟨#[]⟩ => ?_) fun k7 => ?_
    · have he : libsE d l q = 40 := by rw [libsE, if_neg (not_not_intro k1), if_neg (not_not_intro k2), if_neg k3, if_pos k6, if_pos k7]
      refine libs_no (by rw [he]; decide) ?_
      rw [he]
      refine good_run [(12, [14, 48, 49, 50, 51, 52, 53, 54, 55, 56, 57, 58, 59, 60, 61, 62, 63], [61])] mixed Tryz.func34 rfl Tryz.ntmps34 (rs := [.tmp 6, .tmp 7]) rfl (by decide +kernel) (by kernel_rfl) rfl ?_
      rw [startE_eq 86 _ _ _ rfl rfl]
      set_option maxRecDepth 100000 in simp (maxSteps := 10000000) only [go_sem, Nat.reduceAdd, Nat.reduceSub, Nat.reduceMul, Nat.reduceLT, Nat.reduceLeDiff, Nat.reduceEqDiff, Nat.reduceMod, Nat.reduceDiv, Int.reduceNeg, Int.reduceLE, Int.reduceLT, Int.reduceToNat, Int.reduceEq, Int.reduceNe, ↓reduceIte]
      refine call_of (cl) ?_
      set_option maxRecDepth 100000 in simp (maxSteps := 10000000) only [go_sem, Nat.reduceAdd, Nat.reduceSub, Nat.reduceMul, Nat.reduceLT, Nat.reduceLeDiff, Nat.reduceEqDiff, Nat.reduceMod, Nat.reduceDiv, Int.reduceNeg, Int.reduceLE, Int.reduceLT, Int.reduceToNat, Int.reduceEq, Int.reduceNe, ↓reduceIte,  k1, not_true_eq_false, decide_false]
      refine call_of (fm) ?_
      set_option maxRecDepth 100000 in simp (maxSteps := 10000000) only [go_sem, Nat.reduceAdd, Nat.reduceSub, Nat.reduceMul, Nat.reduceLT, Nat.reduceLeDiff, Nat.reduceEqDiff, Nat.reduceMod, Nat.reduceDiv, Int.reduceNeg, Int.reduceLE, Int.reduceLT, Int.reduceToNat, Int.reduceEq, Int.reduceNe, ↓reduceIte,  k2, not_true_eq_false, decide_false, k4, k5, k6', k7, z2, z3, decide_true]
    · have he : libsE d l q = 0 := by rw [libsE, if_neg (not_not_intro k1), if_neg (not_not_intro k2), if_neg k3, if_pos k6, if_neg k7]
      have hv : libsP d l q = [l.current] := by rw [libsP, if_pos he, libsV, if_neg k3, if_pos k6]
      rw [he, hv]
      refine good_run [(12, [14, 48, 49, 50, 51, 52, 53, 54, 55, 56, 57, 58, 59, 60, 61, 62, 63], [61])] mixed Tryz.func34 rfl Tryz.ntmps34 (rs := [.tmp 6, .tmp 7]) rfl (by decide +kernel) (by kernel_rfl) rfl ?_
      rw [startE_eq 86 _ _ _ rfl rfl]
      set_option maxRecDepth 100000 in simp (maxSteps := 10000000) only [go_sem, Nat.reduceAdd, Nat.reduceSub, Nat.reduceMul, Nat.reduceLT, Nat.reduceLeDiff, Nat.reduceEqDiff, Nat.reduceMod, Nat.reduceDiv, Int.reduceNeg, Int.reduceLE, Int.reduceLT, Int.reduceToNat, Int.reduceEq, Int.reduceNe, ↓reduceIte]
      refine call_of (cl) ?_
      set_option maxRecDepth 100000 in simp (maxSteps := 10000000) only [go_sem, Nat.reduceAdd, Nat.reduceSub, Nat.reduceMul, Nat.reduceLT, Nat.reduceLeDiff, Nat.reduceEqDiff, Nat.reduceMod, Nat.reduceDiv, Int.reduceNeg, Int.reduceLE, Int.reduceLT, Int.reduceToNat, Int.reduceEq, Int.reduceNe, ↓reduceIte,  k1, not_true_eq_false, decide_false]
      refine call_of (fm) ?_
      set_option maxRecDepth 100000 in simp (maxSteps := 10000000) only [go_sem, Nat.reduceAdd, Nat.reduceSub, Nat.reduceMul, Nat.reduceLT, Nat.reduceLeDiff, Nat.reduceEqDiff, Nat.reduceMod, Nat.reduceDiv, Int.reduceNeg, Int.reduceLE, Int.reduceLT, Int.reduceToNat, Int.reduceEq, Int.reduceNe, ↓reduceIte,  k2, not_true_eq_false, decide_false, k4, k5, k6', k7, z2, z3, decide_true]
  have k6' : ¬ q.lib = ⟨#[42, 67, 85, 82, 76, 73, 66]⟩ := k6
  refine Classical.byCases (fun k7 : q.lib = sUSR => ?_) fun k7 => ?_
  · have k7' : q.lib = ⟨#[42, 85, 83, 82, 76, 73, 66, 76]⟩ := k7
    have he : libsE d l q = 0 := by rw [libsE, if_neg (not_not_intro k1), if_neg (not_not_intro k2), if_neg k3, if_neg k6, if_pos k7]
    have hv : libsP d l q = l.user := by rw [libsP, if_pos he, libsV, if_neg k3, if_neg k6, if_pos k7]
    rw [he, hv]
    refine good_run [(12, [14, 48, 49, 50, 51, 52, 53, 54, 55, 56, 57, 58, 59, 60, 61, 62, 63], [61])] mixed Tryz.func34 rfl Tryz.ntmps34 (rs := [.tmp 6, .tmp 7]) rfl (by decide +kernel) (by kernel_rfl) rfl ?_
    rw [startE_eq 86 _ _ _ rfl rfl]
    set_option maxRecDepth 100000 in simp (maxSteps := 10000000) only [go_sem, Nat.reduceAdd, Nat.reduceSub, Nat.reduceMul, Nat.reduceLT, Nat.reduceLeDiff, Nat.reduceEqDiff, Nat.reduceMod, Nat.reduceDiv, Int.reduceNeg, Int.reduceLE, Int.reduceLT, Int.reduceToNat, Int.reduceEq, Int.reduceNe, ↓reduceIte]
    refine call_of (cl) ?_
    set_option maxRecDepth 100000 in simp (maxSteps := 10000000) only [go_sem, Nat.reduceAdd, Nat.reduceSub, Nat.reduceMul, Nat.reduceLT, Nat.reduceLeDiff, Nat.reduceEqDiff, Nat.reduceMod, Nat.reduceDiv, Int.reduceNeg, Int.reduceLE, Int.reduceLT, Int.reduceToNat, Int.reduceEq, Int.reduceNe, ↓reduceIte,  k1, not_true_eq_false, decide_false]
    refine call_of (fm) ?_
    set_option maxRecDepth 100000 in simp (maxSteps := 10000000) only [go_sem, Nat.reduceAdd, Nat.reduceSub, Nat.reduceMul, Nat.reduceLT, Nat.reduceLeDiff, Nat.reduceEqDiff, Nat.reduceMod, Nat.reduceDiv, Int.reduceNeg, Int.reduceLE, Int.reduceLT, Int.reduceToNat, Int.reduceEq, Int.reduceNe, ↓reduceIte,  k2, not_true_eq_false, decide_false, k4, k5, k6', k7', z4, z5, z6, decide_true]
    refine callM_of [] [77] (CloneS l.user (by omega)) ⟨rfl, rfl, rfl, by simp, by simp, by simp, by simp, rfl, rfl, rfl, onodup_of (l := [7]) rfl (by decide)⟩ ?_
    set_option maxRecDepth 100000 in simp (maxSteps := 10000000) only [go_sem, Nat.reduceAdd, Nat.reduceSub, Nat.reduceMul, Nat.reduceLT, Nat.reduceLeDiff, Nat.reduceEqDiff, Nat.reduceMod, Nat.reduceDiv, Int.reduceNeg, Int.reduceLE, Int.reduceLT, Int.reduceToNat, Int.reduceEq, Int.reduceNe, ↓reduceIte]
  have k7' : ¬ q.lib = ⟨#[42, 85, 83, 82, 76, 73, 66, 76]⟩ := k7
  have ex := libExists_good d q.lib h
  cases k8 : hasLib d.objects q.lib with
  | false =>
    rw [k8] at ex
    have he : libsE d l q = 11 := by rw [libsE, if_neg (not_not_intro k1), if_neg (not_not_intro k2), if_neg k3, if_neg k6, if_neg k7, if_pos k8]
    refine libs_no (by rw [he]; decide) ?_
    rw [he]
    refine good_run [(12, [14, 48, 49, 50, 51, 52, 53, 54, 55, 56, 57, 58, 59, 60, 61, 62, 63], [61])] mixed Tryz.func34 rfl Tryz.ntmps34 (rs := [.tmp 6, .tmp 7]) rfl (by decide +kernel) (by kernel_rfl) rfl ?_
    rw [startE_eq 86 _ _ _ rfl rfl]
    set_option maxRecDepth 100000 in simp (maxSteps := 10000000) only [go_sem, Nat.reduceAdd, Nat.reduceSub, Nat.reduceMul, Nat.reduceLT, Nat.reduceLeDiff, Nat.reduceEqDiff, Nat.reduceMod, Nat.reduceDiv, Int.reduceNeg, Int.reduceLE, Int.reduceLT, Int.reduceToNat, Int.reduceEq, Int.reduceNe, ↓reduceIte]
    refine call_of (cl) ?_
    set_option maxRecDepth 100000 in simp (maxSteps := 10000000) only [go_sem, Nat.reduceAdd, Nat.reduceSub, Nat.reduceMul, Nat.reduceLT, Nat.reduceLeDiff, Nat.reduceEqDiff, Nat.reduceMod, Nat.reduceDiv, Int.reduceNeg, Int.reduceLE, Int.reduceLT, Int.reduceToNat, Int.reduceEq, Int.reduceNe, ↓reduceIte,  k1, not_true_eq_false, decide_false]
    refine call_of (fm) ?_
    set_option maxRecDepth 100000 in simp (maxSteps := 10000000) only [go_sem, Nat.reduceAdd, Nat.reduceSub, Nat.reduceMul, Nat.reduceLT, Nat.reduceLeDiff, Nat.reduceEqDiff, Nat.reduceMod, Nat.reduceDiv, Int.reduceNeg, Int.reduceLE, Int.reduceLT, Int.reduceToNat, Int.reduceEq, Int.reduceNe, ↓reduceIte,  k2, not_true_eq_false, decide_false, k4, k5, k6', k7', z4, z5, z6, decide_true]
    refine call_of (ex) ?_
    set_option maxRecDepth 100000 in simp (maxSteps := 10000000) only [go_sem, Nat.reduceAdd, Nat.reduceSub, Nat.reduceMul, Nat.reduceLT, Nat.reduceLeDiff, Nat.reduceEqDiff, Nat.reduceMod, Nat.reduceDiv, Int.reduceNeg, Int.reduceLE, Int.reduceLT, Int.reduceToNat, Int.reduceEq, Int.reduceNe, ↓reduceIte,  Bool.not_false]
  | true =>
    rw [k8] at ex
    have he : libsE d l q = 0 := by rw [libsE, if_neg (not_not_intro k1), if_neg (not_not_intro k2), if_neg k3, if_neg k6, if_neg k7, if_neg (by rw [k8]; decide)]
    have hv : libsP d l q = [q.lib] := by rw [libsP, if_pos he, libsV, if_neg k3, if_neg k6, if_neg k7]
    rw [he, hv]
    refine good_run [(12, [14, 48, 49, 50, 51, 52, 53, 54, 55, 56, 57, 58, 59, 60, 61, 62, 63], [61])] mixed Tryz.func34 rfl Tryz.ntmps34 (rs := [.tmp 6, .tmp 7]) rfl (by decide +kernel) (by kernel_rfl) rfl ?_
    rw [startE_eq 86 _ _ _ rfl rfl]
    set_option maxRecDepth 100000 in simp (maxSteps := 10000000) only [go_sem, Nat.reduceAdd, Nat.reduceSub, Nat.reduceMul, Nat.reduceLT, Nat.reduceLeDiff, Nat.reduceEqDiff, Nat.reduceMod, Nat.reduceDiv, Int.reduceNeg, Int.reduceLE, Int.reduceLT, Int.reduceToNat, Int.reduceEq, Int.reduceNe, ↓reduceIte]
    refine call_of (cl) ?_
    set_option maxRecDepth 100000 in simp (maxSteps := 10000000) only [go_sem, Nat.reduceAdd, Nat.reduceSub, Nat.reduceMul, Nat.reduceLT, Nat.reduceLeDiff, Nat.reduceEqDiff, Nat.reduceMod, Nat.reduceDiv, Int.reduceNeg, Int.reduceLE, Int.reduceLT, Int.reduceToNat, Int.reduceEq, Int.reduceNe, ↓reduceIte,  k1, not_true_eq_false, decide_false]
    refine call_of (fm) ?_
    set_option maxRecDepth 100000 in simp (maxSteps := 10000000) only [go_sem, Nat.reduceAdd, Nat.reduceSub, Nat.reduceMul, Nat.reduceLT, Nat.reduceLeDiff, Nat.reduceEqDiff, Nat.reduceMod, Nat.reduceDiv, Int.reduceNeg, Int.reduceLE, Int.reduceLT, Int.reduceToNat, Int.reduceEq, Int.reduceNe, ↓reduceIte,  k2, not_true_eq_false, decide_false, k4, k5, k6', k7', z4, z5, z6, decide_true]
    refine call_of (ex) ?_
    set_option maxRecDepth 100000 in simp (maxSteps := 10000000) only [go_sem, Nat.reduceAdd, Nat.reduceSub, Nat.reduceMul, Nat.reduceLT, Nat.reduceLeDiff, Nat.reduceEqDiff, Nat.reduceMod, Nat.reduceDiv, Int.reduceNeg, Int.reduceLE, Int.reduceLT, Int.reduceToNat, Int.reduceEq, Int.reduceNe, ↓reduceIte,  Bool.not_true]
end Go.Proofs.YtppjmigiogddpaaGreat.C08
