/- Chapter 9: what types permit; finding; moving; the plain law of moving; what is right stays right. -/
import Derived.Test.YtppjmigiogddpaaGreatE14
import Derived.Shelf.Small.Strs
import Derived.Test.YtppjmigiogddpaaGreatC6
import Derived.Test.YtppjmigiogddpaaGreatC12
import Derived.Test.YtppjmigiogddpaaGreatP8
import Derived.Test.YtppjmigiogddpaaGreatE10

namespace Go.Proofs.YtppjmigiogddpaaGreat.C08
open Go Go.Proofs Go.Proofs.YtppjmigiogddpaaGreat.Ab
set_option linter.unusedSimpArgs false
attribute [local congr] ite_ctx

def opTab : ByteArray := ⟨#[114, 109, 121, 100, 101, 99, 97, 108, 115]⟩
def refTab : ByteArray := ⟨#[114, 109, 99, 100, 82, 67, 120, 101, 115]⟩
def permTab : List ByteArray := [
  ⟨#[114, 100, 115]⟩,
  ⟨#[114, 109, 99, 100, 120, 115]⟩,
  ⟨#[114, 109, 99, 100, 115]⟩,
  ⟨#[114, 109, 99, 100, 115]⟩,
  ⟨#[114, 109, 99, 100, 82, 67, 101, 115]⟩,
  ⟨#[100, 82, 67, 115]⟩,
  ⟨#[100, 82, 67, 115]⟩,
  ⟨#[114, 109, 99, 100, 82, 67, 101, 115]⟩,
  ⟨#[114, 109, 99, 100, 82, 67, 115]⟩,
  ⟨#[114, 109, 100, 82, 67, 101, 115]⟩,
  ⟨#[114, 109, 100, 82, 67, 101, 115]⟩,
  ⟨#[114, 109, 99, 100, 82, 67, 115]⟩,
  ⟨#[114, 109, 99, 100, 82, 67, 115]⟩,
  ⟨#[114, 109, 99, 100, 82, 67, 115]⟩,
  ⟨#[114, 109, 99, 100, 67, 120, 115]⟩,
  ⟨#[100, 82, 115]⟩,
  ⟨#[100, 82, 115]⟩,
  ⟨#[114, 109, 99, 100, 82, 67, 115]⟩,
  ⟨#[114, 109, 100, 82, 67, 101, 115]⟩,
  ⟨#[114, 109, 99, 100, 82, 101]⟩,
  ⟨#[114, 109, 99, 100, 82, 67, 115]⟩,
  ⟨#[114, 109, 99, 100, 82, 67, 115]⟩,
  ⟨#[114, 109, 100, 82, 67, 101, 115]⟩,
  ⟨#[114, 100, 82, 67]⟩,
  ⟨#[114, 100, 82, 67]⟩,
  ⟨#[114, 100, 82, 67]⟩,
  ⟨#[100, 82, 115]⟩,
  ⟨#[114, 109, 99, 100, 82, 115]⟩,
  ⟨#[114, 109, 99, 100, 120, 115]⟩,
  ⟨#[114, 109, 99, 100, 82, 67, 120, 115]⟩]

def permR (t k : Nat) : Bool := (List.range (nth permTab t).size).any fun i => decide (byteAt (nth permTab t) i = byteAt refTab k)
def permP (t k : Nat) : Bool := decide (0 ≤ Lib.indexByte (nth kinds t).2.data.toList (byteAt opTab k).toNat.toUInt8)
theorem perm_eq : ∀ t, t < 30 → ∀ k, k < 9 → permP t k = permR t k := by decide +kernel

theorem permits_good (t k : Nat) (ht : t < 30) (hk : k < 9) : Ans Tryz.prog 107 [.int .i64 (t : Int), .int .i64 (k : Int)] (.bool (permR t k)) := by
  have hl : kinds.length = 30 := rfl
  have h1 : t < kinds.length := by omega
  have h2 : (t : Int) < (kinds.length : Int) := by omega
  have hk2 : (k : Int) < 9 := by omega
  rw [← perm_eq t ht k hk]
  refine good_run [] mixed Tryz.func107 rfl Tryz.ntmps107 (rs := [.tmp 4]) rfl (by decide +kernel) (by kernel_rfl) rfl ?_
  rw [startE_eq 14 _ _ _ rfl rfl]
  set_option maxRecDepth 100000 in simp (maxSteps := 10000000) only [go_sem, Nat.reduceAdd, Nat.reduceSub, Nat.reduceMul, Nat.reduceLT, Nat.reduceLeDiff, Nat.reduceEqDiff, Nat.reduceMod, Nat.reduceDiv, Int.reduceNeg, Int.reduceLE, Int.reduceLT, Int.reduceToNat, Int.reduceEq, Int.reduceNe, ↓reduceIte]
  have hk3 : k < (#[114, 109, 121, 100, 101, 99, 97, 108, 115] : Array UInt8).size := hk
  refine callD_of (kinds_good) ?_
  set_option maxRecDepth 100000 in simp (maxSteps := 10000000) only [go_sem, Nat.reduceAdd, Nat.reduceSub, Nat.reduceMul, Nat.reduceLT, Nat.reduceLeDiff, Nat.reduceEqDiff, Nat.reduceMod, Nat.reduceDiv, Int.reduceNeg, Int.reduceLE, Int.reduceLT, Int.reduceToNat, Int.reduceEq, Int.reduceNe, ↓reduceIte,  h1, h2, hk3]
  refine callD_of (IndexByte_good _ _) ?_
  set_option maxRecDepth 100000 in simp (maxSteps := 10000000) only [go_sem, Nat.reduceAdd, Nat.reduceSub, Nat.reduceMul, Nat.reduceLT, Nat.reduceLeDiff, Nat.reduceEqDiff, Nat.reduceMod, Nat.reduceDiv, Int.reduceNeg, Int.reduceLE, Int.reduceLT, Int.reduceToNat, Int.reduceEq, Int.reduceNe, ↓reduceIte]
  exact ⟨by decide +kernel, rfl⟩
end Go.Proofs.YtppjmigiogddpaaGreat.C08

namespace Go.Proofs.YtppjmigiogddpaaGreat.C08
open Go Go.Proofs Go.Proofs.YtppjmigiogddpaaGreat.Ab
set_option linter.unusedSimpArgs false
attribute [local congr] ite_ctx

theorem Find_good (d : Dir) (n : OName) (h : d.objects.length ≤ 1000000) : Ans Tryz.prog 74 [.agg (encDir d), .agg (encOName n)] (.tup [.int .i64 (findP d n), .int .i64 (findE d n)]) := by
  refine good_run [] mixed Tryz.func74 rfl Tryz.ntmps74 (rs := [.tmp 4, .tmp 5]) rfl (by decide +kernel) (by kernel_rfl) rfl ?_
  rw [startE_eq 29 _ _ _ rfl rfl]
  set_option maxRecDepth 100000 in simp (maxSteps := 10000000) only [go_sem, Nat.reduceAdd, Nat.reduceSub, Nat.reduceMul, Nat.reduceLT, Nat.reduceLeDiff, Nat.reduceEqDiff, Nat.reduceMod, Nat.reduceDiv, Int.reduceNeg, Int.reduceLE, Int.reduceLT, Int.reduceToNat, Int.reduceEq, Int.reduceNe, ↓reduceIte]
  refine call_of (CheckDirectory_good d h) ?_
  set_option maxRecDepth 100000 in simp (maxSteps := 10000000) only [go_sem, Nat.reduceAdd, Nat.reduceSub, Nat.reduceMul, Nat.reduceLT, Nat.reduceLeDiff, Nat.reduceEqDiff, Nat.reduceMod, Nat.reduceDiv, Int.reduceNeg, Int.reduceLE, Int.reduceLT, Int.reduceToNat, Int.reduceEq, Int.reduceNe, ↓reduceIte]
  refine ifI (fun h1 => ?_) fun h1 => ?_
  · have hE : findE d n = (dirE d).2 := by rw [findE, if_pos h1]
    rw [findP, hE, if_neg h1]
    set_option maxRecDepth 100000 in simp (maxSteps := 10000000) only [go_sem, Nat.reduceAdd, Nat.reduceSub, Nat.reduceMul, Nat.reduceLT, Nat.reduceLeDiff, Nat.reduceEqDiff, Nat.reduceMod, Nat.reduceDiv, Int.reduceNeg, Int.reduceLE, Int.reduceLT, Int.reduceToNat, Int.reduceEq, Int.reduceNe, ↓reduceIte]
  set_option maxRecDepth 100000 in simp (maxSteps := 10000000) only [go_sem, Nat.reduceAdd, Nat.reduceSub, Nat.reduceMul, Nat.reduceLT, Nat.reduceLeDiff, Nat.reduceEqDiff, Nat.reduceMod, Nat.reduceDiv, Int.reduceNeg, Int.reduceLE, Int.reduceLT, Int.reduceToNat, Int.reduceEq, Int.reduceNe, ↓reduceIte]
  refine call_of (CheckName_good n) ?_
  set_option maxRecDepth 100000 in simp (maxSteps := 10000000) only [go_sem, Nat.reduceAdd, Nat.reduceSub, Nat.reduceMul, Nat.reduceLT, Nat.reduceLeDiff, Nat.reduceEqDiff, Nat.reduceMod, Nat.reduceDiv, Int.reduceNeg, Int.reduceLE, Int.reduceLT, Int.reduceToNat, Int.reduceEq, Int.reduceNe, ↓reduceIte]
  refine ifI (fun h2 => ?_) fun h2 => ?_
  · have hE : findE d n = errName n := by rw [findE, if_neg h1, if_pos h2]
    rw [findP, hE, if_neg h2]
    set_option maxRecDepth 100000 in simp (maxSteps := 10000000) only [go_sem, Nat.reduceAdd, Nat.reduceSub, Nat.reduceMul, Nat.reduceLT, Nat.reduceLeDiff, Nat.reduceEqDiff, Nat.reduceMod, Nat.reduceDiv, Int.reduceNeg, Int.reduceLE, Int.reduceLT, Int.reduceToNat, Int.reduceEq, Int.reduceNe, ↓reduceIte]
  set_option maxRecDepth 100000 in simp (maxSteps := 10000000) only [go_sem, Nat.reduceAdd, Nat.reduceSub, Nat.reduceMul, Nat.reduceLT, Nat.reduceLeDiff, Nat.reduceEqDiff, Nat.reduceMod, Nat.reduceDiv, Int.reduceNeg, Int.reduceLE, Int.reduceLT, Int.reduceToNat, Int.reduceEq, Int.reduceNe, ↓reduceIte]
  refine call_of (at_good d n h) ?_
  set_option maxRecDepth 100000 in simp (maxSteps := 10000000) only [go_sem, Nat.reduceAdd, Nat.reduceSub, Nat.reduceMul, Nat.reduceLT, Nat.reduceLeDiff, Nat.reduceEqDiff, Nat.reduceMod, Nat.reduceDiv, Int.reduceNeg, Int.reduceLE, Int.reduceLT, Int.reduceToNat, Int.reduceEq, Int.reduceNe, ↓reduceIte]
  refine ifI (fun h3 => ?_) fun h3 => ?_
  · have hE : findE d n = 11 := by rw [findE, if_neg h1, if_neg h2, if_pos h3]
    rw [findP, hE, if_neg (by decide)]
    set_option maxRecDepth 100000 in simp (maxSteps := 10000000) only [go_sem, Nat.reduceAdd, Nat.reduceSub, Nat.reduceMul, Nat.reduceLT, Nat.reduceLeDiff, Nat.reduceEqDiff, Nat.reduceMod, Nat.reduceDiv, Int.reduceNeg, Int.reduceLE, Int.reduceLT, Int.reduceToNat, Int.reduceEq, Int.reduceNe, ↓reduceIte]
  · have hE : findE d n = 0 := by rw [findE, if_neg h1, if_neg h2, if_neg h3]
    rw [findP, hE, if_pos rfl]
    set_option maxRecDepth 100000 in simp (maxSteps := 10000000) only [go_sem, Nat.reduceAdd, Nat.reduceSub, Nat.reduceMul, Nat.reduceLT, Nat.reduceLeDiff, Nat.reduceEqDiff, Nat.reduceMod, Nat.reduceDiv, Int.reduceNeg, Int.reduceLE, Int.reduceLT, Int.reduceToNat, Int.reduceEq, Int.reduceNe, ↓reduceIte]
end Go.Proofs.YtppjmigiogddpaaGreat.C08

namespace Go.Proofs.YtppjmigiogddpaaGreat.C08
open Go Go.Proofs Go.Proofs.YtppjmigiogddpaaGreat.Ab
set_option linter.unusedSimpArgs false
attribute [local congr] ite_ctx

theorem errName_type {n : OName} (h : errName n = 0) : ∃ t : Nat, t < 30 ∧ n.type = (t : Int) := by
  rw [errName] at h
  split at h
  · cases h
  · rename_i q
    have : inB n.type 0 29 = true := by simpa using q
    rw [inB, decide_eq_true_eq] at this
    exact ⟨n.type.toNat, by omega, by omega⟩

def foundE (d : Dir) (n : OName) (k : Nat) : Int := if ¬ findE d n = 0 then findE d n else if permR n.type.toNat k = false then 39 else 0
theorem foundE_ok {d : Dir} {n : OName} {k : Nat} (h : foundE d n k = 0) : findE d n = 0 ∧ permR n.type.toNat k = true := by
  rw [foundE] at h
  by_cases h1 : findE d n = 0
  · rw [if_neg (not_not_intro h1)] at h
    refine ⟨h1, ?_⟩
    by_cases h2 : permR n.type.toNat k = false
    · rw [if_pos h2] at h; cases h
    · simpa using h2
  · rw [if_pos h1] at h; exact absurd h h1
end Go.Proofs.YtppjmigiogddpaaGreat.C08

namespace Go.Proofs.YtppjmigiogddpaaGreat.C08
open Go Go.Proofs Go.Proofs.YtppjmigiogddpaaGreat.Ab
set_option linter.unusedSimpArgs false
attribute [local congr] ite_ctx

theorem obj_eq (a b : Obj) : (decide (a.name.lib = b.name.lib) && (decide (a.name.name = b.name.name) && (decide (a.name.type = b.name.type) && (decide (a.owner = b.owner) && (decide (a.seg = b.seg) && (decide (a.text = b.text) && decide (a.content = b.content))))))) = decide (a = b) := by
  cases a; cases b
  rename_i n1 _ _ _ _ n2 _ _ _ _
  cases n1; cases n2
  rw [Bool.eq_iff_iff]
  simp [and_assoc]
theorem nth_ext {l m : List Obj} (h : l.length = m.length) (hp : ∀ j, j < l.length → nth l j = nth m j) : l = m := by
  refine List.ext_getElem h fun i h1 h2 => ?_
  have := hp i h1
  rwa [nth_eq h1, nth_eq h2] at this
theorem dir_ext {p q : Dir} (h1 : ¬ ¬ p.next = q.next) (h : p.objects.length = q.objects.length) (hp : ∀ j, j < p.objects.length → nth p.objects j = nth q.objects j) : p = q := by
  cases p; cases q
  have := nth_ext h hp
  simp only at this h1
  rw [this, Classical.not_not.1 h1]
set_option maxHeartbeats 4000000 in
theorem Same_good (p q : Dir) (h : p.objects.length ≤ 1000000) : Ans Tryz.prog 15 [.agg (encDir p), .agg (encDir q)] (.bool (decide (p = q))) := by
  refine good_run [(4, [4, 20, 21, 22, 23, 24, 25, 26, 27, 28, 29, 30, 31, 32, 33, 34, 35, 36, 37], [])] mixed Tryz.func15 rfl Tryz.ntmps15 (rs := [.tmp 4]) rfl (by decide +kernel) (by kernel_rfl) rfl ?_
  rw [startE_eq 38 _ _ _ rfl rfl]
  set_option maxRecDepth 100000 in simp (maxSteps := 10000000) only [go_sem, Nat.reduceAdd, Nat.reduceSub, Nat.reduceMul, Nat.reduceLT, Nat.reduceLeDiff, Nat.reduceEqDiff, Nat.reduceMod, Nat.reduceDiv, Int.reduceNeg, Int.reduceLE, Int.reduceLT, Int.reduceToNat, Int.reduceEq, Int.reduceNe, ↓reduceIte]
  refine ifI (fun h1 => ?_) fun h1 => ?_
  · set_option maxRecDepth 100000 in simp (maxSteps := 10000000) only [go_sem, Nat.reduceAdd, Nat.reduceSub, Nat.reduceMul, Nat.reduceLT, Nat.reduceLeDiff, Nat.reduceEqDiff, Nat.reduceMod, Nat.reduceDiv, Int.reduceNeg, Int.reduceLE, Int.reduceLT, Int.reduceToNat, Int.reduceEq, Int.reduceNe, ↓reduceIte,  h1]
    refine Classical.byCases (fun h2 : (p.objects.length : Int) = (q.objects.length : Int) => ?_) fun h2 => ?_
    case refine_2 =>
      set_option maxRecDepth 100000 in simp (maxSteps := 10000000) only [go_sem, Nat.reduceAdd, Nat.reduceSub, Nat.reduceMul, Nat.reduceLT, Nat.reduceLeDiff, Nat.reduceEqDiff, Nat.reduceMod, Nat.reduceDiv, Int.reduceNeg, Int.reduceLE, Int.reduceLT, Int.reduceToNat, Int.reduceEq, Int.reduceNe, ↓reduceIte,  h2, not_false_eq_true, decide_true]
      exact (decide_eq_false fun e => h2 (by rw [e])).symm
    have h2' : p.objects.length = q.objects.length := by omega
    set_option maxRecDepth 100000 in simp (maxSteps := 10000000) only [go_sem, Nat.reduceAdd, Nat.reduceSub, Nat.reduceMul, Nat.reduceLT, Nat.reduceLeDiff, Nat.reduceEqDiff, Nat.reduceMod, Nat.reduceDiv, Int.reduceNeg, Int.reduceLE, Int.reduceLT, Int.reduceToNat, Int.reduceEq, Int.reduceNe, ↓reduceIte,  h2, not_true_eq_false, decide_false]
    refine loop_by ([4, 20, 21, 22, 23, 24, 25, 26, 27, 28, 29, 30, 31, 32, 33, 34, 35, 36, 37], []) (fun i : Nat => [(.s 5, .int .i64 (i : Int))]) (fun i => p.objects.length - i) (fun i => i ≤ p.objects.length ∧ ∀ j, j < i → nth p.objects j = nth q.objects j) 0 rfl ⟨Nat.zero_le _, fun j hj => absurd hj (Nat.not_lt_zero _)⟩ rfl ?_
    rintro c' st' hst i ⟨hi, hp⟩ ih
    set_option maxRecDepth 100000 in simp (maxSteps := 10000000) only [go_sem, Nat.reduceAdd, Nat.reduceSub, Nat.reduceMul, Nat.reduceLT, Nat.reduceLeDiff, Nat.reduceEqDiff, Nat.reduceMod, Nat.reduceDiv, Int.reduceNeg, Int.reduceLE, Int.reduceLT, Int.reduceToNat, Int.reduceEq, Int.reduceNe, ↓reduceIte]
    refine ifI (fun hlt => ?_) fun hlt => ?_
    · set_option maxRecDepth 100000 in simp (maxSteps := 10000000) only [go_sem, Nat.reduceAdd, Nat.reduceSub, Nat.reduceMul, Nat.reduceLT, Nat.reduceLeDiff, Nat.reduceEqDiff, Nat.reduceMod, Nat.reduceDiv, Int.reduceNeg, Int.reduceLE, Int.reduceLT, Int.reduceToNat, Int.reduceEq, Int.reduceNe, ↓reduceIte,  hlt, show i < q.objects.length by omega, obj_eq]
      refine ⟨by decide +kernel, ifI (fun h3 => ?_) fun h3 => ?_⟩
      · set_option maxRecDepth 100000 in simp (maxSteps := 10000000) only [go_sem, Nat.reduceAdd, Nat.reduceSub, Nat.reduceMul, Nat.reduceLT, Nat.reduceLeDiff, Nat.reduceEqDiff, Nat.reduceMod, Nat.reduceDiv, Int.reduceNeg, Int.reduceLE, Int.reduceLT, Int.reduceToNat, Int.reduceEq, Int.reduceNe, ↓reduceIte]
        rw [Bool.not_eq_true', decide_eq_false_iff_not] at h3
        exact (decide_eq_false fun e => h3 (by rw [e])).symm
      · set_option maxRecDepth 100000 in simp (maxSteps := 10000000) only [go_sem, Nat.reduceAdd, Nat.reduceSub, Nat.reduceMul, Nat.reduceLT, Nat.reduceLeDiff, Nat.reduceEqDiff, Nat.reduceMod, Nat.reduceDiv, Int.reduceNeg, Int.reduceLE, Int.reduceLT, Int.reduceToNat, Int.reduceEq, Int.reduceNe, ↓reduceIte]
        rw [Bool.not_eq_true', decide_eq_false_iff_not, Classical.not_not] at h3
        refine ih (i + 1) _ ⟨by omega, fun j hj => ?_⟩ (by omega) ?_
        · rcases Nat.lt_or_ge j i with h | h
          · exact hp j h
          · rw [show j = i by omega]; exact h3
        · set_option maxRecDepth 100000 in simp (maxSteps := 10000000) only [go_sem, Nat.reduceAdd, Nat.reduceSub, Nat.reduceMul, Nat.reduceLT, Nat.reduceLeDiff, Nat.reduceEqDiff, Nat.reduceMod, Nat.reduceDiv, Int.reduceNeg, Int.reduceLE, Int.reduceLT, Int.reduceToNat, Int.reduceEq, Int.reduceNe, ↓reduceIte,  wrap_succ (show i < 9223372036854775807 by omega)]
    subst hst
    set_option maxRecDepth 100000 in simp (maxSteps := 10000000) only [go_sem, Nat.reduceAdd, Nat.reduceSub, Nat.reduceMul, Nat.reduceLT, Nat.reduceLeDiff, Nat.reduceEqDiff, Nat.reduceMod, Nat.reduceDiv, Int.reduceNeg, Int.reduceLE, Int.reduceLT, Int.reduceToNat, Int.reduceEq, Int.reduceNe, ↓reduceIte,  hlt]
    exact (decide_eq_true (dir_ext (of_decide_eq_false h1) h2' fun j hj => hp j (by omega))).symm
  · set_option maxRecDepth 100000 in simp (maxSteps := 10000000) only [go_sem, Nat.reduceAdd, Nat.reduceSub, Nat.reduceMul, Nat.reduceLT, Nat.reduceLeDiff, Nat.reduceEqDiff, Nat.reduceMod, Nat.reduceDiv, Int.reduceNeg, Int.reduceLE, Int.reduceLT, Int.reduceToNat, Int.reduceEq, Int.reduceNe, ↓reduceIte,  h1]
    exact (decide_eq_false fun e => h1 (by rw [e]; simp)).symm

end Go.Proofs.YtppjmigiogddpaaGreat.C08

namespace Go.Proofs.YtppjmigiogddpaaGreat.C08
open Go Go.Proofs Go.Proofs.YtppjmigiogddpaaGreat.Ab
set_option linter.unusedSimpArgs false
set_option linter.unusedVariables false

theorem findIx_true {α : Type} [Inhabited α] {p : α → Bool} : ∀ {l : List α} {b : Nat} {i : Nat}, findIx p l b = (i : Int) → b ≤ i ∧ p (nth l (i - b)) = true := by
  intro l
  induction l with
  | nil => intro b i h; rw [findIx] at h; omega
  | cons a l ih =>
    intro b i h
    rw [findIx] at h
    split at h
    · rename_i hp
      have : i = b := by omega
      subst this
      exact ⟨Nat.le_refl _, by rw [Nat.sub_self]; exact hp⟩
    · have := ih h
      refine ⟨by omega, ?_⟩
      have e : i - b = (i - (b + 1)) + 1 := by omega
      rw [e]; exact this.2
theorem place_name {l : List Obj} {n : OName} {i : Nat} (h : placeIx l n = (i : Int)) : (nth l i).name = n := by
  have := (findIx_true h).2
  rw [Nat.sub_zero] at this
  exact of_decide_eq_true this
theorem split_at {l : List Obj} {i : Nat} (h : i < l.length) : l = l.take i ++ nth l i :: l.drop (i + 1) := by
  rw [nth_eq h, ← List.drop_eq_getElem_cons h, List.take_append_drop]
theorem without_sub (l : List Obj) {i : Nat} (h : i < l.length) : (withoutL l i).Sublist l := by
  conv => rhs; rw [split_at h]
  exact (List.Sublist.refl _).append (List.sublist_cons_self _ _)

/-- Objects of a right type. -/
abbrev OT := { o : Obj // 0 ≤ o.name.type ∧ o.name.type ≤ 29 }
instance : Inhabited OT := ⟨⟨⟨⟨⟨#[]⟩, ⟨#[]⟩, 0⟩, ⟨#[]⟩, 0, ⟨#[]⟩, ⟨#[]⟩⟩, by decide, by decide⟩⟩
def cmpM (a b : OName) : Int :=
  if ¬ a.lib = b.lib then Lib.compareBytes a.lib.data.toList b.lib.data.toList
  else if ¬ a.name = b.name then Lib.compareBytes a.name.data.toList b.name.data.toList else a.type - b.type
def cfM (a b : OT) : Int := cmpM a.1.name b.1.name
theorem cmpM_lt (a b : OName) : decide (cmpM a b < 0) = nLt a b := by
  unfold cmpM nLt sLt
  rw [← ByteArray.toList_eq, ← ByteArray.toList_eq, ← ByteArray.toList_eq, ← ByteArray.toList_eq]
  by_cases h1 : a.lib = b.lib
  · rw [if_neg (not_not_intro h1), if_neg (not_not_intro h1)]
    by_cases h2 : a.name = b.name
    · rw [if_neg (not_not_intro h2), if_neg (not_not_intro h2), decide_eq_decide]; omega
    · rw [if_pos h2, if_pos h2, Bool.eq_iff_iff, decide_eq_true_eq, cmpB_lt]
  · rw [if_pos h1, if_pos h1, Bool.eq_iff_iff, decide_eq_true_eq, cmpB_lt]
theorem ltM (x y : OT) : ltOf cfM x y = nLt x.1.name y.1.name := cmpM_lt x.1.name y.1.name
theorem swoM : Sort.SWO (ltOf cfM) where
  irrefl x := by rw [ltM]; exact nLt_irrefl _
  trans x y z h1 h2 := by rw [ltM] at *; exact nLt_trans h1 h2
  ntrans x y z h1 h2 := by
    rw [ltM] at *
    rw [Bool.eq_false_iff]; intro h3
    by_cases h4 : nLt y.1.name x.1.name = true
    · rw [nLt_trans h4 h3] at h2; cases h2
    · have := nLt_total h1 (Bool.eq_false_iff.2 h4)
      rw [this, h2] at h3; cases h3

theorem mv_sort {l : List Obj} {i : Nat} {o : Obj} (hi : i < l.length) (hs : Sorted l) (hn : ∀ a ∈ l, ¬ a.name = o.name) (L : List OT) (hL : L.map (·.1) = l.set i o) :
    (sortG cfM L).map (·.1) = insO o (withoutL l i) := by
  have hsub := without_sub l hi
  refine sorted_unique ?_ ?_ (insO_sorted (hs.sublist hsub) fun a ha => hn a (hsub.subset ha))
  · refine ((sortG_perm swoM L).map _).trans ?_
    rw [hL, List.set_eq_take_append_cons_drop, if_pos hi]
    exact List.perm_middle.trans (insO_perm o _).symm
  · rw [List.pairwise_map, List.pairwise_iff_getElem]
    intro a b ha hb hab
    have hl := sortG_len swoM L
    have := sortG_sorted swoM L hab (by omega)
    rw [ltM, nth_eq hb, nth_eq ha] at this
    exact this
theorem errObj_name {o : Obj} (h : errObj o = 0) : errName o.name = 0 := by
  unfold errObj at h
  by_cases q : errName o.name = 0
  · exact q
  · first
    | rw [if_pos q] at h; exact absurd h q
    | (split at h <;> first | exact absurd h q | omega)
theorem obj_type {d : Dir} (h : (dirE d).2 = 0) {o : Obj} (ho : o ∈ d.objects) : 0 ≤ o.name.type ∧ o.name.type ≤ 29 := by
  obtain ⟨i, hi, rfl⟩ := List.getElem_of_mem ho
  have h1 := ((objE_ok hi).1 (dirE_objs h hi)).err
  rw [nth_eq hi] at h1
  have h2 := errObj_name h1
  rw [errName] at h2
  split at h2
  · cases h2
  · rename_i q
    have : inB (d.objects[i]).name.type 0 29 = true := by simpa using q
    rw [inB, decide_eq_true_eq] at this
    omega
end Go.Proofs.YtppjmigiogddpaaGreat.C08

namespace Go.Proofs.YtppjmigiogddpaaGreat.C08
open Go Go.Proofs Go.Proofs.YtppjmigiogddpaaGreat.Ab
set_option linter.unusedSimpArgs false
set_option linter.unusedVariables false
attribute [local congr] ite_ctx

def tyE (t : Int) : Int := if inB t 0 29 = true then 0 else 4
theorem inB_iff (t : Int) : inB t 0 29 = true ↔ 0 ≤ t ∧ t ≤ 29 := by
  rw [inB]; simp
end Go.Proofs.YtppjmigiogddpaaGreat.C08

namespace Go.Proofs.YtppjmigiogddpaaGreat.C08
open Go Go.Proofs Go.Proofs.YtppjmigiogddpaaGreat.Ab
set_option linter.unusedSimpArgs false
set_option linter.unusedVariables false
attribute [local congr] ite_ctx

def opsN (t n : Nat) : List Int := ((List.range n).filter (permR t)).map fun k : Nat => (k : Int)
theorem opsN_succ (t n : Nat) : opsN t (n + 1) = if permR t n = true then opsN t n ++ [(n : Int)] else opsN t n := by
  rw [opsN, List.range_succ, List.filter_append, List.map_append, opsN]
  simp only [List.filter_cons, List.filter_nil]
  split <;> simp
theorem opsN_len (t n : Nat) : (opsN t n).length ≤ n := by
  rw [opsN, List.length_map]
  exact Nat.le_trans (List.length_filter_le _ _) (by rw [List.length_range]; exact Nat.le_refl _)
def opsL (t : Int) : List Int := if inB t 0 29 = true then opsN t.toNat 9 else []
theorem encI_snoc (l : List Int) (n : Int) : List.map encInt l ++ [[.int .i64 n]] = List.map encInt (l ++ [n]) := by rw [List.map_append]; rfl
theorem opsN_any : ∀ t : Nat, t < 30 → ∀ k : Nat, k < 9 → ((opsN t 9).any fun p => decide (p = (k : Int))) = permR t k := by decide +kernel

set_option maxHeartbeats 4000000 in
theorem OperationsOf_good (t : Int) : Ans Tryz.prog 75 [.int .i64 t] (.tup [.sl ((opsL t).map encInt), .int .i64 (tyE t)]) := by
  have it := isType_good t
  cases h : inB t 0 29 with
  | false =>
    rw [h] at it
    rw [opsL, tyE, if_neg (by rw [h]; decide), if_neg (by rw [h]; decide)]
    refine Ans.le (r := .tup [.nils, .int .i64 4]) ?_ (.tup' (.cons .nils (.cons (.refl _) .nil))) rfl
    refine good_run [(5, [5, 10, 11, 12, 13, 14, 15, 16, 17, 18, 19], [1401003019, 18])] mixed Tryz.func75 rfl Tryz.ntmps75 (rs := [.tmp 2, .tmp 3]) rfl (by decide +kernel) (by kernel_rfl) rfl ?_
    rw [startE_eq 21 _ _ _ rfl rfl]
    set_option maxRecDepth 100000 in simp (maxSteps := 10000000) only [go_sem, Nat.reduceAdd, Nat.reduceSub, Nat.reduceMul, Nat.reduceLT, Nat.reduceLeDiff, Nat.reduceEqDiff, Nat.reduceMod, Nat.reduceDiv, Int.reduceNeg, Int.reduceLE, Int.reduceLT, Int.reduceToNat, Int.reduceEq, Int.reduceNe, ↓reduceIte]
    refine call_of (it) ?_
    set_option maxRecDepth 100000 in simp (maxSteps := 10000000) only [go_sem, Nat.reduceAdd, Nat.reduceSub, Nat.reduceMul, Nat.reduceLT, Nat.reduceLeDiff, Nat.reduceEqDiff, Nat.reduceMod, Nat.reduceDiv, Int.reduceNeg, Int.reduceLE, Int.reduceLT, Int.reduceToNat, Int.reduceEq, Int.reduceNe, ↓reduceIte,  Bool.not_false]
  | true =>
  rw [h] at it
  rw [opsL, tyE, if_pos h, if_pos h]
  obtain ⟨h1, h2⟩ := (inB_iff t).1 h
  obtain ⟨k, rfl⟩ : ∃ k : Nat, t = (k : Int) := ⟨t.toNat, by omega⟩
  have hk : k < 30 := by omega
  rw [Int.toNat_natCast]
  have hsz : (⟨#[114, 109, 121, 100, 101, 99, 97, 108, 115]⟩ : ByteArray).size = 9 := rfl
  have hby : ∀ i, i < 9 → byteAt ⟨#[114, 109, 121, 100, 101, 99, 97, 108, 115]⟩ i < 128 := by decide +kernel
  refine good_run [(5, [5, 10, 11, 12, 13, 14, 15, 16, 17, 18, 19], [1401003019, 18])] mixed Tryz.func75 rfl Tryz.ntmps75 (rs := [.tmp 2, .tmp 3]) rfl (by decide +kernel) (by kernel_rfl) rfl ?_
  rw [startE_eq 21 _ _ _ rfl rfl]
  set_option maxRecDepth 100000 in simp (maxSteps := 10000000) only [go_sem, Nat.reduceAdd, Nat.reduceSub, Nat.reduceMul, Nat.reduceLT, Nat.reduceLeDiff, Nat.reduceEqDiff, Nat.reduceMod, Nat.reduceDiv, Int.reduceNeg, Int.reduceLE, Int.reduceLT, Int.reduceToNat, Int.reduceEq, Int.reduceNe, ↓reduceIte]
  refine call_of (it) ?_
  set_option maxRecDepth 100000 in simp (maxSteps := 10000000) only [go_sem, Nat.reduceAdd, Nat.reduceSub, Nat.reduceMul, Nat.reduceLT, Nat.reduceLeDiff, Nat.reduceEqDiff, Nat.reduceMod, Nat.reduceDiv, Int.reduceNeg, Int.reduceLE, Int.reduceLT, Int.reduceToNat, Int.reduceEq, Int.reduceNe, ↓reduceIte,  Bool.not_true]
  refine loop_by ([5, 10, 11, 12, 13, 14, 15, 16, 17, 18, 19], [1401003019, 18]) (fun i : Nat => [(.s 4, .ref 19 ((opsN k i).length + 1)), (.o 9, .iter 1 ⟨#[114, 109, 121, 100, 101, 99, 97, 108, 115]⟩ i), (.o 18, deadV (opsN k i).length), (.o 19, .obj ((opsN k i).length + 1) 3 1 false true ((opsN k i).map encInt))]) (fun i => 9 - i) (fun i => i ≤ 9) 0 rfl (Nat.zero_le _) ?_ ?_
  · set_option maxRecDepth 100000 in simp (maxSteps := 10000000) only [go_sem, Nat.reduceAdd, Nat.reduceSub, Nat.reduceMul, Nat.reduceLT, Nat.reduceLeDiff, Nat.reduceEqDiff, Nat.reduceMod, Nat.reduceDiv, Int.reduceNeg, Int.reduceLE, Int.reduceLT, Int.reduceToNat, Int.reduceEq, Int.reduceNe, ↓reduceIte,  show opsN k 0 = [] from rfl, List.map_nil, List.length_nil]
  rintro c' st' hst i hi ih
  refine Classical.byCases (fun hlt : i < 9 => ?_) fun hlt => ?_
  case refine_2 =>
    have hi9 : i = 9 := by omega
    subst hi9 hst
    set_option maxRecDepth 100000 in simp (maxSteps := 10000000) only [go_sem, Nat.reduceAdd, Nat.reduceSub, Nat.reduceMul, Nat.reduceLT, Nat.reduceLeDiff, Nat.reduceEqDiff, Nat.reduceMod, Nat.reduceDiv, Int.reduceNeg, Int.reduceLE, Int.reduceLT, Int.reduceToNat, Int.reduceEq, Int.reduceNe, ↓reduceIte,  hsz, Nat.lt_irrefl, List.length_nil]
  have pm := permits_good k i hk hlt
  have hs := opsN_succ k i
  have hl := opsN_len k i
  have es := encI_snoc (opsN k i) (i : Int)
  have hb := hby i hlt
  set_option maxRecDepth 100000 in simp (maxSteps := 10000000) only [go_sem, Nat.reduceAdd, Nat.reduceSub, Nat.reduceMul, Nat.reduceLT, Nat.reduceLeDiff, Nat.reduceEqDiff, Nat.reduceMod, Nat.reduceDiv, Int.reduceNeg, Int.reduceLE, Int.reduceLT, Int.reduceToNat, Int.reduceEq, Int.reduceNe, ↓reduceIte,  hsz, hlt, hb]
  cases hp : permR k i with
  | false =>
    rw [hp] at pm hs
    rw [if_neg (by decide)] at hs
    refine call_of (pm) ?_
    set_option maxRecDepth 100000 in simp (maxSteps := 10000000) only [go_sem, Nat.reduceAdd, Nat.reduceSub, Nat.reduceMul, Nat.reduceLT, Nat.reduceLeDiff, Nat.reduceEqDiff, Nat.reduceMod, Nat.reduceDiv, Int.reduceNeg, Int.reduceLE, Int.reduceLT, Int.reduceToNat, Int.reduceEq, Int.reduceNe, ↓reduceIte]
    refine ih (i + 1) _ (by omega) (by omega) ?_
    set_option maxRecDepth 100000 in simp (maxSteps := 10000000) only [go_sem, Nat.reduceAdd, Nat.reduceSub, Nat.reduceMul, Nat.reduceLT, Nat.reduceLeDiff, Nat.reduceEqDiff, Nat.reduceMod, Nat.reduceDiv, Int.reduceNeg, Int.reduceLE, Int.reduceLT, Int.reduceToNat, Int.reduceEq, Int.reduceNe, ↓reduceIte,  hs]
  | true =>
    rw [hp] at pm hs
    rw [if_pos rfl] at hs
    have hl2 : (opsN k i ++ [(i : Int)]).length = (opsN k i).length + 1 := by rw [List.length_append]; rfl
    refine call_of (pm) ?_
    set_option maxRecDepth 100000 in simp (maxSteps := 10000000) only [go_sem, Nat.reduceAdd, Nat.reduceSub, Nat.reduceMul, Nat.reduceLT, Nat.reduceLeDiff, Nat.reduceEqDiff, Nat.reduceMod, Nat.reduceDiv, Int.reduceNeg, Int.reduceLE, Int.reduceLT, Int.reduceToNat, Int.reduceEq, Int.reduceNe, ↓reduceIte,  es, show ((opsN k i).length + 1) * 8 ≤ 140737488355328 by omega, show (opsN k i).length + 1 ≤ maxLen by unfold maxLen; omega]
    refine ih (i + 1) _ (by omega) (by omega) ?_
    set_option maxRecDepth 100000 in simp (maxSteps := 10000000) only [go_sem, Nat.reduceAdd, Nat.reduceSub, Nat.reduceMul, Nat.reduceLT, Nat.reduceLeDiff, Nat.reduceEqDiff, Nat.reduceMod, Nat.reduceDiv, Int.reduceNeg, Int.reduceLE, Int.reduceLT, Int.reduceToNat, Int.reduceEq, Int.reduceNe, ↓reduceIte,  hs, hl2]

theorem permitted_good (d : Dir) (n : OName) (k : Nat) (hk : k < 9) (h : d.objects.length ≤ 1000000) : Ans Tryz.prog 36 [.agg (encDir d), .agg (encOName n), .int .i64 (k : Int)] (.tup [.int .i64 (if foundE d n k = 0 then placeIx d.objects n else 0), .int .i64 (foundE d n k)]) := by
  have fd := Find_good d n h
  refine Classical.byCases (fun h1 : findE d n = 0 => ?_) fun h1 => ?_
  case refine_2 =>
    have he : foundE d n k = findE d n := by rw [foundE, if_pos h1]
    rw [he, if_neg h1]
    refine good_run [] mixed Tryz.func36 rfl Tryz.ntmps36 (rs := [.tmp 6, .tmp 7]) rfl (by decide +kernel) (by kernel_rfl) rfl ?_
    rw [startE_eq 32 _ _ _ rfl rfl]
    set_option maxRecDepth 100000 in simp (maxSteps := 10000000) only [go_sem, Nat.reduceAdd, Nat.reduceSub, Nat.reduceMul, Nat.reduceLT, Nat.reduceLeDiff, Nat.reduceEqDiff, Nat.reduceMod, Nat.reduceDiv, Int.reduceNeg, Int.reduceLE, Int.reduceLT, Int.reduceToNat, Int.reduceEq, Int.reduceNe, ↓reduceIte]
    refine call_of (fd) ?_
    set_option maxRecDepth 100000 in simp (maxSteps := 10000000) only [go_sem, Nat.reduceAdd, Nat.reduceSub, Nat.reduceMul, Nat.reduceLT, Nat.reduceLeDiff, Nat.reduceEqDiff, Nat.reduceMod, Nat.reduceDiv, Int.reduceNeg, Int.reduceLE, Int.reduceLT, Int.reduceToNat, Int.reduceEq, Int.reduceNe, ↓reduceIte,  h1, not_false_eq_true, decide_true]
  have hnm : errName n = 0 := by
    rw [findE] at h1
    split at h1
    · rename_i q; exact absurd h1 q
    split at h1
    · rename_i q; exact absurd h1 q
    · rename_i q; exact Classical.not_not.1 q
  obtain ⟨t, ht, htt⟩ := errName_type hnm
  have oo := OperationsOf_good n.type
  have hin : inB n.type 0 29 = true := (inB_iff _).2 (by omega)
  have hops : opsL n.type = opsN t 9 := by rw [opsL, if_pos hin, htt, Int.toNat_natCast]
  rw [hops, tyE, if_pos hin] at oo
  have hpe : findP d n = placeIx d.objects n := by rw [findP, if_pos h1]
  rw [h1, hpe] at fd
  have hlen := opsN_len t 9
  have ct := ContainsI_good (opsN t 9) (k : Int) (by omega)
  rw [opsN_any t ht k hk] at ct
  have hfe : foundE d n k = if permR t k = false then 39 else 0 := by rw [foundE, if_neg (not_not_intro h1), htt, Int.toNat_natCast]
  cases hp : permR t k with
  | false =>
    rw [hp] at ct
    rw [hfe, hp, show (if (false : Bool) = false then (39 : Int) else 0) = 39 from rfl, if_neg (by decide)]
    refine good_run [] mixed Tryz.func36 rfl Tryz.ntmps36 (rs := [.tmp 6, .tmp 7]) rfl (by decide +kernel) (by kernel_rfl) rfl ?_
    rw [startE_eq 32 _ _ _ rfl rfl]
    set_option maxRecDepth 100000 in simp (maxSteps := 10000000) only [go_sem, Nat.reduceAdd, Nat.reduceSub, Nat.reduceMul, Nat.reduceLT, Nat.reduceLeDiff, Nat.reduceEqDiff, Nat.reduceMod, Nat.reduceDiv, Int.reduceNeg, Int.reduceLE, Int.reduceLT, Int.reduceToNat, Int.reduceEq, Int.reduceNe, ↓reduceIte]
    refine call_of (fd) ?_
    set_option maxRecDepth 100000 in simp (maxSteps := 10000000) only [go_sem, Nat.reduceAdd, Nat.reduceSub, Nat.reduceMul, Nat.reduceLT, Nat.reduceLeDiff, Nat.reduceEqDiff, Nat.reduceMod, Nat.reduceDiv, Int.reduceNeg, Int.reduceLE, Int.reduceLT, Int.reduceToNat, Int.reduceEq, Int.reduceNe, ↓reduceIte,  not_true_eq_false, decide_false]
    refine call_of (oo) ?_
    set_option maxRecDepth 100000 in simp (maxSteps := 10000000) only [go_sem, Nat.reduceAdd, Nat.reduceSub, Nat.reduceMul, Nat.reduceLT, Nat.reduceLeDiff, Nat.reduceEqDiff, Nat.reduceMod, Nat.reduceDiv, Int.reduceNeg, Int.reduceLE, Int.reduceLT, Int.reduceToNat, Int.reduceEq, Int.reduceNe, ↓reduceIte]
    refine call_of (ct) ?_
    set_option maxRecDepth 100000 in simp (maxSteps := 10000000) only [go_sem, Nat.reduceAdd, Nat.reduceSub, Nat.reduceMul, Nat.reduceLT, Nat.reduceLeDiff, Nat.reduceEqDiff, Nat.reduceMod, Nat.reduceDiv, Int.reduceNeg, Int.reduceLE, Int.reduceLT, Int.reduceToNat, Int.reduceEq, Int.reduceNe, ↓reduceIte,  Bool.not_false]
  | true =>
    rw [hp] at ct
    rw [hfe, hp, show (if (true : Bool) = false then (39 : Int) else 0) = 0 from rfl, if_pos rfl]
    refine good_run [] mixed Tryz.func36 rfl Tryz.ntmps36 (rs := [.tmp 6, .tmp 7]) rfl (by decide +kernel) (by kernel_rfl) rfl ?_
    rw [startE_eq 32 _ _ _ rfl rfl]
    set_option maxRecDepth 100000 in simp (maxSteps := 10000000) only [go_sem, Nat.reduceAdd, Nat.reduceSub, Nat.reduceMul, Nat.reduceLT, Nat.reduceLeDiff, Nat.reduceEqDiff, Nat.reduceMod, Nat.reduceDiv, Int.reduceNeg, Int.reduceLE, Int.reduceLT, Int.reduceToNat, Int.reduceEq, Int.reduceNe, ↓reduceIte]
    refine call_of (fd) ?_
    set_option maxRecDepth 100000 in simp (maxSteps := 10000000) only [go_sem, Nat.reduceAdd, Nat.reduceSub, Nat.reduceMul, Nat.reduceLT, Nat.reduceLeDiff, Nat.reduceEqDiff, Nat.reduceMod, Nat.reduceDiv, Int.reduceNeg, Int.reduceLE, Int.reduceLT, Int.reduceToNat, Int.reduceEq, Int.reduceNe, ↓reduceIte,  not_true_eq_false, decide_false]
    refine call_of (oo) ?_
    set_option maxRecDepth 100000 in simp (maxSteps := 10000000) only [go_sem, Nat.reduceAdd, Nat.reduceSub, Nat.reduceMul, Nat.reduceLT, Nat.reduceLeDiff, Nat.reduceEqDiff, Nat.reduceMod, Nat.reduceDiv, Int.reduceNeg, Int.reduceLE, Int.reduceLT, Int.reduceToNat, Int.reduceEq, Int.reduceNe, ↓reduceIte]
    refine call_of (ct) ?_
    set_option maxRecDepth 100000 in simp (maxSteps := 10000000) only [go_sem, Nat.reduceAdd, Nat.reduceSub, Nat.reduceMul, Nat.reduceLT, Nat.reduceLeDiff, Nat.reduceEqDiff, Nat.reduceMod, Nat.reduceDiv, Int.reduceNeg, Int.reduceLE, Int.reduceLT, Int.reduceToNat, Int.reduceEq, Int.reduceNe, ↓reduceIte,  Bool.not_true]

def moveE2 (d : Dir) (n : OName) (s : ByteArray) : Int := if permR n.type.toNat 1 = false then 39 else if ¬ libE d.objects s = 0 then libE d.objects s else if 0 ≤ placeIx d.objects { n with lib := s } then 12 else 0
end Go.Proofs.YtppjmigiogddpaaGreat.C08

namespace Go.Proofs.YtppjmigiogddpaaGreat.C08
open Go Go.Proofs Go.Proofs.YtppjmigiogddpaaGreat.Ab
set_option linter.unusedSimpArgs false
set_option linter.unusedVariables false
attribute [local congr] ite_ctx

theorem findP_ok {d : Dir} {n : OName} (h : findE d n = 0) : ∃ i : Nat, placeIx d.objects n = (i : Int) ∧ i < d.objects.length := by
  have hk := findE_ok h
  exact ⟨(placeIx d.objects n).toNat, by omega, by omega⟩
theorem le_noDir (e : Int) : AVle (.tup [.agg [.nils, .int .i64 0], .int .i64 e]) (.tup [.agg (encDir noDir), .int .i64 e]) := .tup' (.cons (.agg' (.cons .nils (.cons (.refl _) .nil))) (.cons (.refl _) .nil))

theorem mv1_good (n : OName) (o : Obj) : Ans Tryz.prog 39 [.agg (encObj o), .ptr (encOName n)] (.bool (decide (o.name = n))) := by
  refine good_run [] mixed Tryz.func39 rfl Tryz.ntmps39 (rs := [.tmp 3]) rfl (by decide +kernel) (by kernel_rfl) rfl ?_
  rw [startE_eq 8 _ _ _ rfl rfl]
  set_option maxRecDepth 100000 in simp (maxSteps := 10000000) only [go_sem, Nat.reduceAdd, Nat.reduceSub, Nat.reduceMul, Nat.reduceLT, Nat.reduceLeDiff, Nat.reduceEqDiff, Nat.reduceMod, Nat.reduceDiv, Int.reduceNeg, Int.reduceLE, Int.reduceLT, Int.reduceToNat, Int.reduceEq, Int.reduceNe, ↓reduceIte]
  rw [← name_eq]
set_option maxHeartbeats 4000000 in
theorem mv2_good (a b : OT) : Ans Tryz.prog 42 [.agg (encObj a.1), .agg (encObj b.1)] (.int .i64 (cfM a b)) := by
  obtain ⟨a, ha1, ha2⟩ := a
  obtain ⟨b, hb1, hb2⟩ := b
  show Ans Tryz.prog 42 [.agg (encObj a), .agg (encObj b)] (.int .i64 (cmpM a.name b.name))
  have c1 := Compare_good a.name.lib b.name.lib
  have c2 := Compare_good a.name.name b.name.name
  refine Classical.byCases (fun h1 : a.name.lib = b.name.lib => ?_) fun h1 => ?_
  case refine_2 =>
    rw [cmpM, if_pos h1]
    refine good_run [] mixed Tryz.func42 rfl Tryz.ntmps42 (rs := [.tmp 4]) rfl (by decide +kernel) (by kernel_rfl) rfl ?_
    rw [startE_eq 38 _ _ _ rfl rfl]
    set_option maxRecDepth 100000 in simp (maxSteps := 10000000) only [go_sem, Nat.reduceAdd, Nat.reduceSub, Nat.reduceMul, Nat.reduceLT, Nat.reduceLeDiff, Nat.reduceEqDiff, Nat.reduceMod, Nat.reduceDiv, Int.reduceNeg, Int.reduceLE, Int.reduceLT, Int.reduceToNat, Int.reduceEq, Int.reduceNe, ↓reduceIte,  eq_false h1, decide_false, not_false_eq_true, decide_true, Bool.not_false]
    refine ⟨by decide +kernel, ?_⟩
    refine call_of (c1) ?_
    set_option maxRecDepth 100000 in simp (maxSteps := 10000000) only [go_sem, Nat.reduceAdd, Nat.reduceSub, Nat.reduceMul, Nat.reduceLT, Nat.reduceLeDiff, Nat.reduceEqDiff, Nat.reduceMod, Nat.reduceDiv, Int.reduceNeg, Int.reduceLE, Int.reduceLT, Int.reduceToNat, Int.reduceEq, Int.reduceNe, ↓reduceIte]
  rw [cmpM, if_neg (not_not_intro h1)]
  refine Classical.byCases (fun h2 : a.name.name = b.name.name => ?_) fun h2 => ?_
  case refine_2 =>
    rw [if_pos h2]
    refine good_run [] mixed Tryz.func42 rfl Tryz.ntmps42 (rs := [.tmp 4]) rfl (by decide +kernel) (by kernel_rfl) rfl ?_
    rw [startE_eq 38 _ _ _ rfl rfl]
    set_option maxRecDepth 100000 in simp (maxSteps := 10000000) only [go_sem, Nat.reduceAdd, Nat.reduceSub, Nat.reduceMul, Nat.reduceLT, Nat.reduceLeDiff, Nat.reduceEqDiff, Nat.reduceMod, Nat.reduceDiv, Int.reduceNeg, Int.reduceLE, Int.reduceLT, Int.reduceToNat, Int.reduceEq, Int.reduceNe, ↓reduceIte,  eq_true h1, eq_false h2, decide_false, not_false_eq_true, decide_true, Bool.not_false, Bool.not_true, not_true_eq_false]
    refine ⟨by decide +kernel, ?_⟩
    refine call_of (c2) ?_
    set_option maxRecDepth 100000 in simp (maxSteps := 10000000) only [go_sem, Nat.reduceAdd, Nat.reduceSub, Nat.reduceMul, Nat.reduceLT, Nat.reduceLeDiff, Nat.reduceEqDiff, Nat.reduceMod, Nat.reduceDiv, Int.reduceNeg, Int.reduceLE, Int.reduceLT, Int.reduceToNat, Int.reduceEq, Int.reduceNe, ↓reduceIte]
  rw [if_neg (not_not_intro h2)]
  refine good_run [] mixed Tryz.func42 rfl Tryz.ntmps42 (rs := [.tmp 4]) rfl (by decide +kernel) (by kernel_rfl) rfl ?_
  rw [startE_eq 38 _ _ _ rfl rfl]
  set_option maxRecDepth 100000 in simp (maxSteps := 10000000) only [go_sem, Nat.reduceAdd, Nat.reduceSub, Nat.reduceMul, Nat.reduceLT, Nat.reduceLeDiff, Nat.reduceEqDiff, Nat.reduceMod, Nat.reduceDiv, Int.reduceNeg, Int.reduceLE, Int.reduceLT, Int.reduceToNat, Int.reduceEq, Int.reduceNe, ↓reduceIte,  eq_true h1, eq_true h2, decide_false, not_false_eq_true, decide_true, Bool.not_false, Bool.not_true, not_true_eq_false, wrap_small (show -1000000 ≤ a.name.type - b.name.type by omega) (show a.name.type - b.name.type ≤ 1000000 by omega)]
  decide +kernel

def moveE (d : Dir) (n : OName) (s : ByteArray) : Int := if ¬ foundE d n 1 = 0 then foundE d n 1 else if ¬ libE d.objects s = 0 then libE d.objects s else if 0 ≤ placeIx d.objects ⟨s, n.name, n.type⟩ then 12 else 0
def movedD (d : Dir) (n : OName) (s : ByteArray) : Dir := ⟨insO { nth d.objects (placeIx d.objects n).toNat with name := ⟨s, n.name, n.type⟩ } (withoutL d.objects (placeIx d.objects n).toNat), d.next⟩
def moveP (d : Dir) (n : OName) (s : ByteArray) : Dir := if moveE d n s = 0 then movedD d n s else noDir
theorem moveE_eq (d : Dir) (n : OName) (s : ByteArray) : moveE d n s = if ¬ findE d n = 0 then findE d n else moveE2 d n s := by
  rw [moveE, moveE2, foundE]
  by_cases h1 : findE d n = 0
  · rw [if_neg (not_not_intro h1), if_neg (not_not_intro h1)]
    by_cases h2 : permR n.type.toNat 1 = false
    · rw [if_pos h2, if_pos h2, if_pos (by decide)]
    · rw [if_neg h2, if_neg h2, if_neg (by decide)]
  · rw [if_pos h1, if_pos h1, if_pos h1]

set_option maxHeartbeats 8000000 in
theorem Move_good (d : Dir) (n : OName) (s : ByteArray) (h : d.objects.length ≤ 1000000) : Ans Tryz.prog 10 [.agg (encDir d), .agg (encOName n), .str s] (.tup [.agg (encDir (moveP d n s)), .int .i64 (moveE d n s)]) := by
  have r1 := permitted_good d n 1 (by decide) h
  refine Classical.byCases (fun h1 : foundE d n 1 = 0 => ?_) fun h1 => ?_
  case refine_2 =>
    have he : moveE d n s = foundE d n 1 := by rw [moveE, if_pos h1]
    rw [moveP, if_neg (by rw [he]; exact h1), he]
    refine Ans.le (r := .tup [.agg [.nils, .int .i64 0], .int .i64 (foundE d n 1)]) ?_ (le_noDir _) rfl
    refine good_run [] mixed Tryz.func10 rfl Tryz.ntmps10 (rs := [.cell 6 24, .tmp 7]) rfl (by decide +kernel) (by kernel_rfl) rfl ?_
    rw [startE_eq 49 _ _ _ rfl rfl]
    set_option maxRecDepth 100000 in simp (maxSteps := 10000000) only [go_sem, Nat.reduceAdd, Nat.reduceSub, Nat.reduceMul, Nat.reduceLT, Nat.reduceLeDiff, Nat.reduceEqDiff, Nat.reduceMod, Nat.reduceDiv, Int.reduceNeg, Int.reduceLE, Int.reduceLT, Int.reduceToNat, Int.reduceEq, Int.reduceNe, ↓reduceIte]
    refine call_of (r1) ?_
    set_option maxRecDepth 100000 in simp (maxSteps := 10000000) only [go_sem, Nat.reduceAdd, Nat.reduceSub, Nat.reduceMul, Nat.reduceLT, Nat.reduceLeDiff, Nat.reduceEqDiff, Nat.reduceMod, Nat.reduceDiv, Int.reduceNeg, Int.reduceLE, Int.reduceLT, Int.reduceToNat, Int.reduceEq, Int.reduceNe, ↓reduceIte,  h1, decide_true, decide_false, not_false_eq_true]
  have r2 := known_good d s h
  rw [if_pos h1, h1] at r1
  refine Classical.byCases (fun h2 : libE d.objects s = 0 => ?_) fun h2 => ?_
  case refine_2 =>
    have he : moveE d n s = libE d.objects s := by rw [moveE, if_neg (not_not_intro h1), if_pos h2]
    rw [moveP, if_neg (by rw [he]; exact h2), he]
    refine Ans.le (r := .tup [.agg [.nils, .int .i64 0], .int .i64 (libE d.objects s)]) ?_ (le_noDir _) rfl
    refine good_run [] mixed Tryz.func10 rfl Tryz.ntmps10 (rs := [.cell 6 24, .tmp 7]) rfl (by decide +kernel) (by kernel_rfl) rfl ?_
    rw [startE_eq 49 _ _ _ rfl rfl]
    set_option maxRecDepth 100000 in simp (maxSteps := 10000000) only [go_sem, Nat.reduceAdd, Nat.reduceSub, Nat.reduceMul, Nat.reduceLT, Nat.reduceLeDiff, Nat.reduceEqDiff, Nat.reduceMod, Nat.reduceDiv, Int.reduceNeg, Int.reduceLE, Int.reduceLT, Int.reduceToNat, Int.reduceEq, Int.reduceNe, ↓reduceIte]
    refine call_of (r1) ?_
    set_option maxRecDepth 100000 in simp (maxSteps := 10000000) only [go_sem, Nat.reduceAdd, Nat.reduceSub, Nat.reduceMul, Nat.reduceLT, Nat.reduceLeDiff, Nat.reduceEqDiff, Nat.reduceMod, Nat.reduceDiv, Int.reduceNeg, Int.reduceLE, Int.reduceLT, Int.reduceToNat, Int.reduceEq, Int.reduceNe, ↓reduceIte,  decide_true, eq_self]
    refine call_of (r2) ?_
    set_option maxRecDepth 100000 in simp (maxSteps := 10000000) only [go_sem, Nat.reduceAdd, Nat.reduceSub, Nat.reduceMul, Nat.reduceLT, Nat.reduceLeDiff, Nat.reduceEqDiff, Nat.reduceMod, Nat.reduceDiv, Int.reduceNeg, Int.reduceLE, Int.reduceLT, Int.reduceToNat, Int.reduceEq, Int.reduceNe, ↓reduceIte,  h2, decide_true, not_false_eq_true]
  rw [h2] at r2
  have r3 := ContainsO_good (mv1_good ⟨s, n.name, n.type⟩) d.objects h
  rw [← findIx_any (fun o : Obj => decide (o.name = (⟨s, n.name, n.type⟩ : OName))) d.objects 0] at r3
  change Ans Tryz.prog 38 [.sl (d.objects.map encObj), .fn 39 [.ptr [.str s, .str n.name, .int .i64 n.type]]] (.bool (decide (0 ≤ placeIx d.objects ⟨s, n.name, n.type⟩))) at r3
  refine Classical.byCases (fun h3 : 0 ≤ placeIx d.objects ⟨s, n.name, n.type⟩ => ?_) fun h3 => ?_
  · have he : moveE d n s = 12 := by rw [moveE, if_neg (not_not_intro h1), if_neg (not_not_intro h2), if_pos h3]
    rw [moveP, if_neg (by rw [he]; decide), he]
    rw [decide_eq_true h3] at r3
    refine Ans.le (r := .tup [.agg [.nils, .int .i64 0], .int .i64 12]) ?_ (le_noDir _) rfl
    refine good_run [] mixed Tryz.func10 rfl Tryz.ntmps10 (rs := [.cell 6 24, .tmp 7]) rfl (by decide +kernel) (by kernel_rfl) rfl ?_
    rw [startE_eq 49 _ _ _ rfl rfl]
    set_option maxRecDepth 100000 in simp (maxSteps := 10000000) only [go_sem, Nat.reduceAdd, Nat.reduceSub, Nat.reduceMul, Nat.reduceLT, Nat.reduceLeDiff, Nat.reduceEqDiff, Nat.reduceMod, Nat.reduceDiv, Int.reduceNeg, Int.reduceLE, Int.reduceLT, Int.reduceToNat, Int.reduceEq, Int.reduceNe, ↓reduceIte]
    refine call_of (r1) ?_
    set_option maxRecDepth 100000 in simp (maxSteps := 10000000) only [go_sem, Nat.reduceAdd, Nat.reduceSub, Nat.reduceMul, Nat.reduceLT, Nat.reduceLeDiff, Nat.reduceEqDiff, Nat.reduceMod, Nat.reduceDiv, Int.reduceNeg, Int.reduceLE, Int.reduceLT, Int.reduceToNat, Int.reduceEq, Int.reduceNe, ↓reduceIte,  decide_true, eq_self]
    refine call_of (r2) ?_
    set_option maxRecDepth 100000 in simp (maxSteps := 10000000) only [go_sem, Nat.reduceAdd, Nat.reduceSub, Nat.reduceMul, Nat.reduceLT, Nat.reduceLeDiff, Nat.reduceEqDiff, Nat.reduceMod, Nat.reduceDiv, Int.reduceNeg, Int.reduceLE, Int.reduceLT, Int.reduceToNat, Int.reduceEq, Int.reduceNe, ↓reduceIte,  not_true_eq_false, decide_false]
    refine call_of (r3) ?_
    set_option maxRecDepth 100000 in simp (maxSteps := 10000000) only [go_sem, Nat.reduceAdd, Nat.reduceSub, Nat.reduceMul, Nat.reduceLT, Nat.reduceLeDiff, Nat.reduceEqDiff, Nat.reduceMod, Nat.reduceDiv, Int.reduceNeg, Int.reduceLE, Int.reduceLT, Int.reduceToNat, Int.reduceEq, Int.reduceNe, ↓reduceIte]
  have he : moveE d n s = 0 := by rw [moveE, if_neg (not_not_intro h1), if_neg (not_not_intro h2), if_neg h3]
  rw [decide_eq_false h3] at r3
  have hfo := (foundE_ok h1).1
  obtain ⟨i, hx, hi⟩ := findP_ok hfo
  have hd := (findE_ok hfo).1
  rw [moveP, if_pos he, he, movedD, hx, Int.toNat_natCast]
  rw [hx] at r1
  have hty := obj_type hd (List.getElem_mem hi)
  rw [← nth_eq hi, place_name hx] at hty
  have hP : ∀ o ∈ d.objects.set i { nth d.objects i with name := (⟨s, n.name, n.type⟩ : OName) }, 0 ≤ o.name.type ∧ o.name.type ≤ 29 := fun o ho => by
    rcases List.mem_or_eq_of_mem_set ho with q | rfl
    · exact obj_type hd q
    · exact hty
  have hL := List.attachWith_map_subtype_val hP
  generalize List.attachWith _ _ hP = L at hL
  have hsrt := mv_sort hi (dir_sorted hd) (o := { nth d.objects i with name := (⟨s, n.name, n.type⟩ : OName) }) (place_no h3) L hL
  have hset : (List.map encObj d.objects).set i [.str s, .str n.name, .int .i64 n.type, .str (nth d.objects i).owner, .int .i64 (nth d.objects i).seg, .str (nth d.objects i).text, .str (nth d.objects i).content] = L.map fun x => encObj x.1 := by
    have : (L.map fun x => encObj x.1) = (L.map (·.1)).map encObj := by rw [List.map_map]; rfl
    rw [this, hL, List.map_set]; rfl
  have hres : ((sortG cfM L).map fun x => encObj x.1) = List.map encObj (insO { nth d.objects i with name := (⟨s, n.name, n.type⟩ : OName) } (withoutL d.objects i)) := by
    rw [← hsrt, List.map_map]; rfl
  have hlen : L.length = d.objects.length := by
    have := congrArg List.length hL
    rwa [List.length_map, List.length_set] at this
  have r4 := SortFuncG (fun x : OT => x.1) cfM swoM 42 mv2_good (enters_of Tryz.func42 (by kernel_rfl) rfl) L (by omega) (by omega)
  rw [hres] at r4
  have hq := map_at encObj hi
  have q1 : (0 : Int) ≤ (i : Int) := by omega
  have q2 : (i : Int) < (d.objects.length : Int) := by omega
  refine good_run [] mixed Tryz.func10 rfl Tryz.ntmps10 (rs := [.cell 6 24, .tmp 7]) rfl (by decide +kernel) (by kernel_rfl) rfl ?_
  rw [startE_eq 49 _ _ _ rfl rfl]
  set_option maxRecDepth 100000 in simp (maxSteps := 10000000) only [go_sem, Nat.reduceAdd, Nat.reduceSub, Nat.reduceMul, Nat.reduceLT, Nat.reduceLeDiff, Nat.reduceEqDiff, Nat.reduceMod, Nat.reduceDiv, Int.reduceNeg, Int.reduceLE, Int.reduceLT, Int.reduceToNat, Int.reduceEq, Int.reduceNe, ↓reduceIte]
  refine call_of (r1) ?_
  set_option maxRecDepth 100000 in simp (maxSteps := 10000000) only [go_sem, Nat.reduceAdd, Nat.reduceSub, Nat.reduceMul, Nat.reduceLT, Nat.reduceLeDiff, Nat.reduceEqDiff, Nat.reduceMod, Nat.reduceDiv, Int.reduceNeg, Int.reduceLE, Int.reduceLT, Int.reduceToNat, Int.reduceEq, Int.reduceNe, ↓reduceIte,  decide_true, eq_self]
  refine call_of (r2) ?_
  set_option maxRecDepth 100000 in simp (maxSteps := 10000000) only [go_sem, Nat.reduceAdd, Nat.reduceSub, Nat.reduceMul, Nat.reduceLT, Nat.reduceLeDiff, Nat.reduceEqDiff, Nat.reduceMod, Nat.reduceDiv, Int.reduceNeg, Int.reduceLE, Int.reduceLT, Int.reduceToNat, Int.reduceEq, Int.reduceNe, ↓reduceIte,  not_true_eq_false, decide_false]
  refine call_of (r3) ?_
  set_option maxRecDepth 100000 in simp (maxSteps := 10000000) only [go_sem, Nat.reduceAdd, Nat.reduceSub, Nat.reduceMul, Nat.reduceLT, Nat.reduceLeDiff, Nat.reduceEqDiff, Nat.reduceMod, Nat.reduceDiv, Int.reduceNeg, Int.reduceLE, Int.reduceLT, Int.reduceToNat, Int.reduceEq, Int.reduceNe, ↓reduceIte]
  refine callM_of [] [37] (CloneM d.objects h) ⟨rfl, rfl, rfl, by simp, by simp, by simp, by simp, rfl, rfl, rfl, onodup_of (l := [7]) rfl (by decide)⟩ ?_
  set_option maxRecDepth 100000 in simp (maxSteps := 10000000) only [go_sem, Nat.reduceAdd, Nat.reduceSub, Nat.reduceMul, Nat.reduceLT, Nat.reduceLeDiff, Nat.reduceEqDiff, Nat.reduceMod, Nat.reduceDiv, Int.reduceNeg, Int.reduceLE, Int.reduceLT, Int.reduceToNat, Int.reduceEq, Int.reduceNe, ↓reduceIte,  hq, hi, q1, q2, Option.map_some, Int.toNat_natCast, List.length_map, hset]
  refine callM_of [37] [37] (r4) ⟨by simp [renA, ren1, invM, posOf, verOf, AV.cellP, Env.go], rfl, rfl, by simp, by simp, by simp, by simp, rfl, rfl, rfl, onodup_of (l := [2]) rfl (by decide)⟩ ?_
  set_option maxRecDepth 100000 in simp (maxSteps := 10000000) only [go_sem, Nat.reduceAdd, Nat.reduceSub, Nat.reduceMul, Nat.reduceLT, Nat.reduceLeDiff, Nat.reduceEqDiff, Nat.reduceMod, Nat.reduceDiv, Int.reduceNeg, Int.reduceLE, Int.reduceLT, Int.reduceToNat, Int.reduceEq, Int.reduceNe, ↓reduceIte]
  done
end Go.Proofs.YtppjmigiogddpaaGreat.C08

namespace Go.Proofs.YtppjmigiogddpaaGreat.C08
open Go Go.Proofs Go.Proofs.YtppjmigiogddpaaGreat.Ab
set_option linter.unusedSimpArgs false
set_option linter.unusedVariables false
attribute [local congr] ite_ctx

theorem without_len (l : List Obj) {i : Nat} (h : i < l.length) : (withoutL l i).length + 1 = l.length := by
  rw [withoutL, List.length_append, List.length_take, List.length_drop]; omega
end Go.Proofs.YtppjmigiogddpaaGreat.C08

namespace Go.Proofs.YtppjmigiogddpaaGreat.C08
open Go Go.Proofs Go.Proofs.YtppjmigiogddpaaGreat.Ab
set_option linter.unusedSimpArgs false
set_option linter.unusedVariables false

def HasL (l : List Obj) (n : ByteArray) : Prop := n = qsys ∨ ∃ x ∈ l, x.name = ⟨qsys, n, 0⟩
theorem hasL_iff {l : List Obj} {n : ByteArray} : hasLib l n = true ↔ HasL l n := by
  rw [hasLib, Bool.or_eq_true, decide_eq_true_eq, placeIx, findIx_any (fun o : Obj => decide (o.name = ⟨qsys, n, 0⟩)) l 0, List.any_eq_true]
  constructor
  · rintro (h | ⟨x, hx, h⟩)
    · exact .inl h
    · exact .inr ⟨x, hx, of_decide_eq_true h⟩
  · rintro (h | ⟨x, hx, h⟩)
    · exact .inl h
    · exact .inr ⟨x, hx, decide_eq_true h⟩

structure DirOk (d : Dir) : Prop where
  len : d.objects.length ≤ 40
  next : 1 ≤ d.next ∧ d.next ≤ 10000
  sorted : Sorted d.objects
  segs : d.objects.Pairwise fun a b => ¬ a.seg = b.seg
  errs : ∀ o ∈ d.objects, errObj o = 0
  range : ∀ o ∈ d.objects, 1 ≤ o.seg ∧ o.seg < d.next
  libs : ∀ o ∈ d.objects, HasL d.objects o.name.lib

theorem scanI_allz {f : Nat → Int} : ∀ (k i : Nat), (∀ j, i ≤ j → j < i + k → f j = 0) → scanI f k i = (0, 0)
  | 0, i, _ => rfl
  | k + 1, i, h => by rw [scanI, if_pos (h i (Nat.le_refl _) (by omega)), scanI_allz k (i + 1) fun j h1 h2 => h j (by omega) (by omega)]
theorem dirOk_iff {d : Dir} : (dirE d).2 = 0 ↔ DirOk d := by
  constructor
  · intro h
    have hk := dirE_ok h
    have hi : ∀ o ∈ d.objects, ∃ i, i < d.objects.length ∧ o = nth d.objects i ∧ ObjOk d i := fun o ho => by
      obtain ⟨i, hi, rfl⟩ := List.getElem_of_mem ho
      exact ⟨i, hi, (nth_eq hi).symm, (objE_ok hi).1 (dirE_objs h hi)⟩
    refine ⟨hk.1, hk.2, dir_sorted h, ?_, fun o ho => ?_, fun o ho => ?_, fun o ho => ?_⟩
    · rw [List.pairwise_iff_getElem]
      intro i j h1 h2 hij
      have := ((objE_ok h2).1 (dirE_objs h h2)).once i hij
      rwa [nth_eq h1, nth_eq h2] at this
    · obtain ⟨i, _, rfl, q⟩ := hi o ho; exact q.err
    · obtain ⟨i, _, rfl, q⟩ := hi o ho; exact q.seg
    · obtain ⟨i, _, rfl, q⟩ := hi o ho; exact hasL_iff.1 q.lib
  · intro h
    have h1 := h.len; have h2 := h.next
    have hz : scanI (objE d) d.objects.length 0 = (0, 0) := scanI_allz _ _ fun j _ hj => by
      have hj : j < d.objects.length := by omega
      have hm := nth_mem hj
      refine (objE_ok hj).2 ⟨h.errs _ hm, h.range _ hm, fun h0 => ?_, fun k hk => ?_, hasL_iff.2 (h.libs _ hm)⟩
      · have := List.pairwise_iff_getElem.1 h.sorted (j - 1) j (by omega) hj (by omega)
        rwa [← nth_eq, ← nth_eq] at this
      · have := List.pairwise_iff_getElem.1 h.segs k j (by omega) hj hk
        rwa [← nth_eq, ← nth_eq] at this
    rw [dirE, if_neg (by omega), if_neg (by omega), hz, if_pos rfl]

theorem seg_inj {l : List Obj} (h : l.Pairwise fun a b => ¬ a.seg = b.seg) {a b : Obj} (ha : a ∈ l) (hb : b ∈ l) (e : a.seg = b.seg) : a = b := by
  obtain ⟨i, hi, h1⟩ := List.getElem_of_mem ha
  obtain ⟨j, hj, h2⟩ := List.getElem_of_mem hb
  have hp := List.pairwise_iff_getElem.1 h
  rcases Nat.lt_trichotomy i j with q | q | q
  · have := hp i j hi hj q
    rw [h1, h2] at this; exact absurd e this
  · subst q; rw [← h1, ← h2]
  · have := hp j i hj hi q
    rw [h1, h2] at this; exact absurd e.symm this

theorem errObj_set {o : Obj} {m : OName} (h : errObj o = 0) (hm : errName m = 0) : errObj { o with name := m } = 0 := by
  rw [errObj] at h ⊢
  split at h
  · rename_i q; exact absurd h q
  rename_i q1
  rw [if_neg (not_not_intro hm)]
  exact h
theorem errObj_of {o : Obj} (h : errObj o = 0) : errName o.name = 0 := by
  rw [errObj] at h
  split at h
  · exact h
  · rename_i q; exact Classical.not_not.1 q

end Go.Proofs.YtppjmigiogddpaaGreat.C08

namespace Go.Proofs.YtppjmigiogddpaaGreat.C08
open Go Go.Proofs Go.Proofs.YtppjmigiogddpaaGreat.Ab
set_option linter.unusedSimpArgs false
set_option linter.unusedVariables false

theorem sys_no_move : ∀ t : Nat, t < 30 → isSys (t : Int) = true → permR t 1 = false := by decide +kernel
theorem errName_move {n : OName} {s : ByteArray} (h : errName n = 0) (hs : isSys n.type = false) (hl : isNm s = true) : errName ⟨s, n.name, n.type⟩ = 0 := by
  rw [errName] at h ⊢
  split at h
  · cases h
  rename_i q1
  split at h
  · cases h
  split at h
  · cases h
  rename_i q3
  rw [if_neg q1, if_neg (by rw [hl]; decide), if_neg q3, if_neg]
  intro q
  rw [clash, Bool.or_eq_true, Bool.and_eq_true, Bool.and_eq_true, decide_eq_true_eq, decide_eq_true_eq] at q
  rcases q with q | q
  · rw [hs] at q; cases q.1
  · have e : n.type = 0 := q.1
    rw [e] at hs; cases hs

/-- An object of another's number, kind, owner and content stands in the directory. -/
def HasO (x : Dir) (o : Obj) : Prop := ∃ p ∈ x.objects, p.seg = o.seg ∧ p.name.type = o.name.type ∧ p.owner = o.owner ∧ p.content = o.content
theorem HasO.refl {x : Dir} {o : Obj} (h : o ∈ x.objects) : HasO x o := ⟨o, h, rfl, rfl, rfl, rfl⟩
theorem kept_move {d : Dir} {n : OName} {s : ByteArray} (hd : DirOk d) (h : moveE d n s = 0) : DirOk (movedD d n s) ∧ ∀ q, HasO d q → HasO (movedD d n s) q := by
  rw [moveE] at h
  have h1 : foundE d n 1 = 0 := Classical.byContradiction fun z => by rw [if_pos z] at h; exact z h
  rw [if_neg (not_not_intro h1)] at h
  have h2 : libE d.objects s = 0 := Classical.byContradiction fun z => by rw [if_pos z] at h; exact z h
  rw [if_neg (not_not_intro h2)] at h
  have h3 : ¬ 0 ≤ placeIx d.objects ⟨s, n.name, n.type⟩ := fun z => by rw [if_pos z] at h; cases h
  clear h
  have hfo := foundE_ok h1
  obtain ⟨i, hx, hi⟩ := findP_ok hfo.1
  have hnm := (findE_ok hfo.1).2.1
  obtain ⟨t, ht, htt⟩ := errName_type hnm
  have hsy : isSys n.type = false := by
    rw [Bool.eq_false_iff]; intro z
    have := sys_no_move t ht (by rw [← htt]; exact z)
    have hp := hfo.2
    rw [htt, Int.toNat_natCast, this] at hp; cases hp
  have hlib : isNm s = true ∧ hasLib d.objects s = true := by
    rw [libE] at h2
    split at h2
    · cases h2
    rename_i z1
    split at h2
    · cases h2
    rename_i z2
    exact ⟨by simpa using z1, by simpa using z2⟩
  have hn := place_name hx
  have hm := nth_mem hi
  have hW := without_sub d.objects hi
  have hlen : (withoutL d.objects i).length + 1 = d.objects.length := without_len d.objects hi
  have hperm : d.objects.Perm (nth d.objects i :: withoutL d.objects i) := by
    conv => lhs; rw [split_at hi]
    exact List.perm_middle
  have hno : ∀ a ∈ d.objects, ¬ a.name = (⟨s, n.name, n.type⟩ : OName) := place_no h3
  rw [movedD, hx, Int.toNat_natCast]
  generalize hQ : nth d.objects i = Q at *
  generalize hO : ({ Q with name := ⟨s, n.name, n.type⟩ } : Obj) = O
  have o1 : O.seg = Q.seg := by rw [← hO]
  have o2 : O.name = ⟨s, n.name, n.type⟩ := by rw [← hO]
  have o3 : O.owner = Q.owner := by rw [← hO]
  have o4 : O.content = Q.content := by rw [← hO]
  have o5 : errObj O = 0 := by rw [← hO]; exact errObj_set (hd.errs Q hm) (errName_move hnm hsy hlib.1)
  have hmem : ∀ x, x ∈ d.objects ↔ x = Q ∨ x ∈ withoutL d.objects i := fun x => by rw [hperm.mem_iff, List.mem_cons]
  generalize withoutL d.objects i = W at *
  have hl := hd.len
  refine ⟨⟨?_, hd.next, ?_, ?_, ?_, ?_, ?_⟩, ?_⟩
  · show (insO O W).length ≤ 40
    rw [insO_len]; omega
  · exact insO_sorted (hd.sorted.sublist hW) fun a ha => by rw [o2]; exact hno a (hW.subset ha)
  · have hs : (Q :: W).Pairwise fun a b => ¬ a.seg = b.seg := (hperm.pairwise_iff fun {x y} q e => q e.symm).1 hd.segs
    obtain ⟨k1, k2⟩ := List.pairwise_cons.1 hs
    refine ((insO_perm O W).pairwise_iff fun {x y} q e => q e.symm).2 (List.pairwise_cons.2 ⟨fun a ha e => ?_, k2⟩)
    exact k1 a ha (by rw [← o1, e])
  · intro x hx
    rcases insO_mem.1 hx with rfl | hx
    · exact o5
    · exact hd.errs x (hW.subset hx)
  · intro x hx
    rcases insO_mem.1 hx with rfl | hx
    · rw [o1]; exact hd.range Q hm
    · exact hd.range x (hW.subset hx)
  · have hh : ∀ y, HasL d.objects y → HasL (insO O W) y := fun y q => by
      rcases q with q | ⟨x, hx, q⟩
      · exact .inl q
      · rcases (hmem x).1 hx with rfl | hx
        · exfalso
          rw [q] at hn
          rw [← hn] at hsy
          have hz : isSys 0 = false := hsy
          exact absurd hz (by decide)
        · exact .inr ⟨x, insO_mem.2 (.inr hx), q⟩
    intro x hx
    rcases insO_mem.1 hx with rfl | hx
    · rw [o2]; exact hh _ (hasL_iff.1 hlib.2)
    · exact hh _ (hd.libs x (hW.subset hx))
  · rintro q ⟨p, hp, k1, k2, k3, k4⟩
    rcases (hmem p).1 hp with rfl | hp
    · refine ⟨O, insO_mem.2 (.inl rfl), by rw [o1, k1], ?_, by rw [o3, k3], by rw [o4, k4]⟩
      rw [o2, ← k2, hn]
    · exact ⟨p, insO_mem.2 (.inr hp), k1, k2, k3, k4⟩

end Go.Proofs.YtppjmigiogddpaaGreat.C08
