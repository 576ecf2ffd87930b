/- Chapter 9: what matches a request. -/
import Derived.Test.YtppjmigiogddpaaE12
namespace Go.Proofs.Ytppjmigiogddpaa.C08
open Go Go.Proofs Go.Proofs.Ytppjmigiogddpaa.Ab
set_option linter.unusedSimpArgs false
set_option linter.unusedVariables false
attribute [local congr] ite_ctx

def hasPre (s p : ByteArray) : Bool := decide (p.size ≤ s.size) && decide (s.extract 0 p.size = p)
def matchB (s : ByteArray) (q : QName) : Bool := if q.generic = true then hasPre s q.name else decide (s = q.name)
theorem HasPrefix1_good (s p : ByteArray) : Ans Try.prog 86 [.str s, .str p] (.bool (hasPre s p)) := by
  refine Classical.byCases (fun h : p.size ≤ s.size => ?_) fun h => ?_
  · rw [hasPre, decide_eq_true h, Bool.true_and]
    refine good_run [] mixed Try.func86 rfl Try.ntmps86 (rs := [.tmp 4]) rfl (by decide +kernel) (by kernel_rfl) rfl ?_
    rw [startE_eq 18 _ _ _ rfl rfl]
    set_option maxRecDepth 100000 in simp (maxSteps := 10000000) only [go_sem, Nat.reduceAdd, Nat.reduceSub, Nat.reduceMul, Nat.reduceLT, Nat.reduceLeDiff, Nat.reduceEqDiff, Nat.reduceMod, Nat.reduceDiv, Int.reduceNeg, Int.reduceLE, Int.reduceLT, Int.reduceToNat, Int.reduceEq, Int.reduceNe, ↓reduceIte,  show (p.size : Int) ≤ (s.size : Int) by omega, decide_true, Int.natCast_nonneg, Int.toNat_natCast, Int.toNat_zero, Int.le_refl]
  · rw [hasPre, decide_eq_false h, Bool.false_and]
    refine good_run [] mixed Try.func86 rfl Try.ntmps86 (rs := [.tmp 4]) rfl (by decide +kernel) (by kernel_rfl) rfl ?_
    rw [startE_eq 18 _ _ _ rfl rfl]
    set_option maxRecDepth 100000 in simp (maxSteps := 10000000) only [go_sem, Nat.reduceAdd, Nat.reduceSub, Nat.reduceMul, Nat.reduceLT, Nat.reduceLeDiff, Nat.reduceEqDiff, Nat.reduceMod, Nat.reduceDiv, Int.reduceNeg, Int.reduceLE, Int.reduceLT, Int.reduceToNat, Int.reduceEq, Int.reduceNe, ↓reduceIte,  show ¬ (p.size : Int) ≤ (s.size : Int) by omega, decide_false]
theorem HasPrefix_good (s p : ByteArray) : Ans Try.prog 65 [.str s, .str p] (.bool (hasPre s p)) := by
  refine good_run [] mixed Try.func65 rfl Try.ntmps65 (rs := [.tmp 4]) rfl (by decide +kernel) (by kernel_rfl) rfl ?_
  rw [startE_eq 8 _ _ _ rfl rfl]
  set_option maxRecDepth 100000 in simp (maxSteps := 10000000) only [go_sem, Nat.reduceAdd, Nat.reduceSub, Nat.reduceMul, Nat.reduceLT, Nat.reduceLeDiff, Nat.reduceEqDiff, Nat.reduceMod, Nat.reduceDiv, Int.reduceNeg, Int.reduceLE, Int.reduceLT, Int.reduceToNat, Int.reduceEq, Int.reduceNe, ↓reduceIte]
  refine call_of (HasPrefix1_good s p) ?_
  set_option maxRecDepth 100000 in simp (maxSteps := 10000000) only [go_sem, Nat.reduceAdd, Nat.reduceSub, Nat.reduceMul, Nat.reduceLT, Nat.reduceLeDiff, Nat.reduceEqDiff, Nat.reduceMod, Nat.reduceDiv, Int.reduceNeg, Int.reduceLE, Int.reduceLT, Int.reduceToNat, Int.reduceEq, Int.reduceNe, ↓reduceIte]
theorem matches_good (s : ByteArray) (q : QName) : Ans Try.prog 62 [.str s, .agg (encQ q)] (.bool (matchB s q)) := by
  cases hg : q.generic with
  | false =>
    rw [matchB, if_neg (by rw [hg]; decide)]
    refine good_run [] mixed Try.func62 rfl Try.ntmps62 (rs := [.tmp 4]) rfl (by decide +kernel) (by kernel_rfl) rfl ?_
    rw [startE_eq 27 _ _ _ rfl rfl]
    set_option maxRecDepth 100000 in simp (maxSteps := 10000000) only [go_sem, Nat.reduceAdd, Nat.reduceSub, Nat.reduceMul, Nat.reduceLT, Nat.reduceLeDiff, Nat.reduceEqDiff, Nat.reduceMod, Nat.reduceDiv, Int.reduceNeg, Int.reduceLE, Int.reduceLT, Int.reduceToNat, Int.reduceEq, Int.reduceNe, ↓reduceIte,  hg]
  | true =>
    rw [matchB, if_pos hg]
    refine Classical.byCases (fun h : q.name.size ≤ s.size => ?_) fun h => ?_
    · rw [hasPre, decide_eq_true h, Bool.true_and]
      refine good_run [] mixed Try.func62 rfl Try.ntmps62 (rs := [.tmp 4]) rfl (by decide +kernel) (by kernel_rfl) rfl ?_
      rw [startE_eq 27 _ _ _ rfl rfl]
      set_option maxRecDepth 100000 in simp (maxSteps := 10000000) only [go_sem, Nat.reduceAdd, Nat.reduceSub, Nat.reduceMul, Nat.reduceLT, Nat.reduceLeDiff, Nat.reduceEqDiff, Nat.reduceMod, Nat.reduceDiv, Int.reduceNeg, Int.reduceLE, Int.reduceLT, Int.reduceToNat, Int.reduceEq, Int.reduceNe, ↓reduceIte,  hg, show (q.name.size : Int) ≤ (s.size : Int) by omega, decide_true, Int.natCast_nonneg, Int.toNat_natCast, Int.toNat_zero, Int.le_refl]
      decide +kernel
    · rw [hasPre, decide_eq_false h, Bool.false_and]
      refine good_run [] mixed Try.func62 rfl Try.ntmps62 (rs := [.tmp 4]) rfl (by decide +kernel) (by kernel_rfl) rfl ?_
      rw [startE_eq 27 _ _ _ rfl rfl]
      set_option maxRecDepth 100000 in simp (maxSteps := 10000000) only [go_sem, Nat.reduceAdd, Nat.reduceSub, Nat.reduceMul, Nat.reduceLT, Nat.reduceLeDiff, Nat.reduceEqDiff, Nat.reduceMod, Nat.reduceDiv, Int.reduceNeg, Int.reduceLE, Int.reduceLT, Int.reduceToNat, Int.reduceEq, Int.reduceNe, ↓reduceIte,  hg, show ¬ (q.name.size : Int) ≤ (s.size : Int) by omega, decide_false]
      decide +kernel
theorem hasPre_self (s : ByteArray) : hasPre s s = true := by
  rw [hasPre, extract_all]; simp
theorem matchB_self (s : ByteArray) (q : QName) (h : s = q.name) : matchB s q = true := by
  rw [matchB, h, hasPre_self]; simp

def selB (s : ByteArray) (r : Reso) (n : OName) : Bool := decide (n.lib = s) && ((decide (r.type = -1) || decide (n.type = r.type)) && matchB n.name r.name)
def selL (s : ByteArray) (r : Reso) (objs : List Obj) : List OName := (objs.map Obj.name).filter (selB s r)
def matchL (objs : List Obj) (libs : List ByteArray) (r : Reso) : List OName := libs.flatMap fun s => selL s r objs
theorem selL_snoc {s : ByteArray} {r : Reso} {objs : List Obj} {k : Nat} (h : k < objs.length) : selL s r (objs.take (k + 1)) = if selB s r (nth objs k).name = true then selL s r (objs.take k) ++ [(nth objs k).name] else selL s r (objs.take k) := by
  rw [take_snoc' h, selL, List.map_append, List.filter_append, selL]
  simp only [List.map_cons, List.map_nil, List.filter_cons, List.filter_nil]
  split <;> simp
theorem matchL_snoc {objs : List Obj} {libs : List ByteArray} {r : Reso} {i : Nat} (h : i < libs.length) : matchL objs (libs.take (i + 1)) r = matchL objs (libs.take i) r ++ selL (nth libs i) r objs := by
  rw [take_snoc' h, matchL, List.flatMap_append]; simp [matchL]
theorem encN_snoc (l : List OName) (n : OName) : List.map encOName l ++ [[.str n.lib, .str n.name, .int .i64 n.type]] = List.map encOName (l ++ [n]) := by rw [List.map_append]; rfl
theorem selL_len (s : ByteArray) (r : Reso) (objs : List Obj) : (selL s r objs).length ≤ objs.length := by
  rw [selL]; exact Nat.le_trans (List.length_filter_le _ _) (by rw [List.length_map]; exact Nat.le_refl _)

def matE (d : Dir) (l : LList) (r : Reso) : Int := if ¬ libsE d l r.name = 0 then libsE d l r.name else if ¬ r.type = -1 ∧ inB r.type 0 29 = false then 4 else 0
def matP (d : Dir) (l : LList) (r : Reso) : List OName := if matE d l r = 0 then matchL d.objects (libsP d l r.name) r else []
theorem mat_no {f : Nat} {args : List AV} {d : Dir} {l : LList} {r : Reso} (h : ¬ matE d l r = 0) (k : Ans Try.prog f args (.tup [.nils, .int .i64 (matE d l r)])) : Ans Try.prog f args (.tup [.sl ((matP d l r).map encOName), .int .i64 (matE d l r)]) := by
  rw [matP, if_neg h]
  exact Ans.le k (.tup' (.cons .nils (.cons (.refl _) .nil))) rfl

set_option maxHeartbeats 16000000 in
theorem Matching_good (d : Dir) (l : LList) (r : Reso) (h : d.objects.length ≤ 1000) (h1 : l.system.length ≤ 1000) (h2 : l.user.length ≤ 1000) (h3 : r.name.lib.size ≤ 1000) (h4 : r.name.name.size ≤ 1000) (h5 : (libsP d l r.name).length ≤ 2001) :
    Ans Try.prog 36 [.agg (encDir d), .agg (encLL l), .agg (encReso r)] (.tup [.sl ((matP d l r).map encOName), .int .i64 (matE d l r)]) := by
  have lf := LibrariesFor_good d l r.name (by omega) h1 h2 h3 h4
  have it := isTy_good r.type
  refine Classical.byCases (fun k1 : libsE d l r.name = 0 => ?_) fun k1 => ?_
  case refine_2 =>
    have he : matE d l r = libsE d l r.name := by rw [matE, if_pos k1]
    refine mat_no (by rw [he]; exact k1) ?_
    rw [he]
    refine good_run [(11, [14, 15, 50, 51, 52, 53, 54, 55, 56, 57, 58, 59, 60, 61, 62, 63, 64, 65, 66, 67, 68, 69, 70, 71, 72, 73, 74, 75, 76, 77, 78, 79, 80, 81, 82, 83, 84, 85, 86, 87, 88, 89, 90, 91, 92, 93, 94, 95, 96, 97, 98, 99, 100], [14, 98]), (8, [12, 14, 15, 43, 44, 45, 46, 47, 48, 49, 50, 51, 52, 53, 54, 55, 56, 57, 58, 59, 60, 61, 62, 63, 64, 65, 66, 67, 68, 69, 70, 71, 72, 73, 74, 75, 76, 77, 78, 79, 80, 81, 82, 83, 84, 85, 86, 87, 88, 89, 90, 91, 92, 93, 94, 95, 96, 97, 98, 99, 100, 101], [2003062099, 14, 98])] mixed Try.func36 rfl Try.ntmps36 (rs := [.tmp 6, .tmp 7]) rfl (by decide +kernel) (by kernel_rfl) rfl ?_
    rw [startE_eq 103 _ _ _ rfl rfl]
    set_option maxRecDepth 100000 in simp (maxSteps := 10000000) only [go_sem, Nat.reduceAdd, Nat.reduceSub, Nat.reduceMul, Nat.reduceLT, Nat.reduceLeDiff, Nat.reduceEqDiff, Nat.reduceMod, Nat.reduceDiv, Int.reduceNeg, Int.reduceLE, Int.reduceLT, Int.reduceToNat, Int.reduceEq, Int.reduceNe, ↓reduceIte]
    refine call_of (lf) ?_
    set_option maxRecDepth 100000 in simp (maxSteps := 10000000) only [go_sem, Nat.reduceAdd, Nat.reduceSub, Nat.reduceMul, Nat.reduceLT, Nat.reduceLeDiff, Nat.reduceEqDiff, Nat.reduceMod, Nat.reduceDiv, Int.reduceNeg, Int.reduceLE, Int.reduceLT, Int.reduceToNat, Int.reduceEq, Int.reduceNe, ↓reduceIte,  k1, not_false_eq_true, decide_true, decide_false]
  refine Classical.byCases (fun k2 : ¬ r.type = -1 ∧ inB r.type 0 29 = false => ?_) fun k2 => ?_
  · have he : matE d l r = 4 := by rw [matE, if_neg (not_not_intro k1), if_pos k2]
    have k3 := k2.1
    rw [k2.2] at it
    refine mat_no (by rw [he]; decide) ?_
    rw [he]
    refine good_run [(11, [14, 15, 50, 51, 52, 53, 54, 55, 56, 57, 58, 59, 60, 61, 62, 63, 64, 65, 66, 67, 68, 69, 70, 71, 72, 73, 74, 75, 76, 77, 78, 79, 80, 81, 82, 83, 84, 85, 86, 87, 88, 89, 90, 91, 92, 93, 94, 95, 96, 97, 98, 99, 100], [14, 98]), (8, [12, 14, 15, 43, 44, 45, 46, 47, 48, 49, 50, 51, 52, 53, 54, 55, 56, 57, 58, 59, 60, 61, 62, 63, 64, 65, 66, 67, 68, 69, 70, 71, 72, 73, 74, 75, 76, 77, 78, 79, 80, 81, 82, 83, 84, 85, 86, 87, 88, 89, 90, 91, 92, 93, 94, 95, 96, 97, 98, 99, 100, 101], [2003062099, 14, 98])] mixed Try.func36 rfl Try.ntmps36 (rs := [.tmp 6, .tmp 7]) rfl (by decide +kernel) (by kernel_rfl) rfl ?_
    rw [startE_eq 103 _ _ _ rfl rfl]
    set_option maxRecDepth 100000 in simp (maxSteps := 10000000) only [go_sem, Nat.reduceAdd, Nat.reduceSub, Nat.reduceMul, Nat.reduceLT, Nat.reduceLeDiff, Nat.reduceEqDiff, Nat.reduceMod, Nat.reduceDiv, Int.reduceNeg, Int.reduceLE, Int.reduceLT, Int.reduceToNat, Int.reduceEq, Int.reduceNe, ↓reduceIte]
    refine call_of (lf) ?_
    set_option maxRecDepth 100000 in simp (maxSteps := 10000000) only [go_sem, Nat.reduceAdd, Nat.reduceSub, Nat.reduceMul, Nat.reduceLT, Nat.reduceLeDiff, Nat.reduceEqDiff, Nat.reduceMod, Nat.reduceDiv, Int.reduceNeg, Int.reduceLE, Int.reduceLT, Int.reduceToNat, Int.reduceEq, Int.reduceNe, ↓reduceIte,  k1, k3, not_true_eq_false, not_false_eq_true, decide_false, decide_true]
    refine call_of (it) ?_
    set_option maxRecDepth 100000 in simp (maxSteps := 10000000) only [go_sem, Nat.reduceAdd, Nat.reduceSub, Nat.reduceMul, Nat.reduceLT, Nat.reduceLeDiff, Nat.reduceEqDiff, Nat.reduceMod, Nat.reduceDiv, Int.reduceNeg, Int.reduceLE, Int.reduceLT, Int.reduceToNat, Int.reduceEq, Int.reduceNe, ↓reduceIte,  Bool.not_false]
  have he : matE d l r = 0 := by rw [matE, if_neg (not_not_intro k1), if_neg k2]
  have hp : matP d l r = matchL d.objects (libsP d l r.name) r := by rw [matP, if_pos he]
  rw [he, hp]
  rw [k1] at lf
  generalize libsP d l r.name = libs at *
  refine good_run [(11, [14, 15, 50, 51, 52, 53, 54, 55, 56, 57, 58, 59, 60, 61, 62, 63, 64, 65, 66, 67, 68, 69, 70, 71, 72, 73, 74, 75, 76, 77, 78, 79, 80, 81, 82, 83, 84, 85, 86, 87, 88, 89, 90, 91, 92, 93, 94, 95, 96, 97, 98, 99, 100], [14, 98]), (8, [12, 14, 15, 43, 44, 45, 46, 47, 48, 49, 50, 51, 52, 53, 54, 55, 56, 57, 58, 59, 60, 61, 62, 63, 64, 65, 66, 67, 68, 69, 70, 71, 72, 73, 74, 75, 76, 77, 78, 79, 80, 81, 82, 83, 84, 85, 86, 87, 88, 89, 90, 91, 92, 93, 94, 95, 96, 97, 98, 99, 100, 101], [2003062099, 14, 98])] mixed Try.func36 rfl Try.ntmps36 (rs := [.tmp 6, .tmp 7]) rfl (by decide +kernel) (by kernel_rfl) rfl ?_
  rw [startE_eq 103 _ _ _ rfl rfl]
  set_option maxRecDepth 100000 in simp (maxSteps := 10000000) only [go_sem, Nat.reduceAdd, Nat.reduceSub, Nat.reduceMul, Nat.reduceLT, Nat.reduceLeDiff, Nat.reduceEqDiff, Nat.reduceMod, Nat.reduceDiv, Int.reduceNeg, Int.reduceLE, Int.reduceLT, Int.reduceToNat, Int.reduceEq, Int.reduceNe, ↓reduceIte]
  refine call_of (lf) ?_
  set_option maxRecDepth 100000 in simp (maxSteps := 10000000) only [go_sem, Nat.reduceAdd, Nat.reduceSub, Nat.reduceMul, Nat.reduceLT, Nat.reduceLeDiff, Nat.reduceEqDiff, Nat.reduceMod, Nat.reduceDiv, Int.reduceNeg, Int.reduceLE, Int.reduceLT, Int.reduceToNat, Int.reduceEq, Int.reduceNe, ↓reduceIte,  not_true_eq_false, decide_false, decide_true]
  refine ifI (fun k4 => ?_) fun k4 => ?_
  case' refine_1 =>
    have k4' : ¬ r.type = -1 := by simpa using k4
    have k5 : inB r.type 0 29 = true := by rw [← Bool.not_eq_false]; exact fun z => k2 ⟨k4', z⟩
    rw [k5] at it
    set_option maxRecDepth 100000 in simp (maxSteps := 10000000) only [go_sem, Nat.reduceAdd, Nat.reduceSub, Nat.reduceMul, Nat.reduceLT, Nat.reduceLeDiff, Nat.reduceEqDiff, Nat.reduceMod, Nat.reduceDiv, Int.reduceNeg, Int.reduceLE, Int.reduceLT, Int.reduceToNat, Int.reduceEq, Int.reduceNe, ↓reduceIte,  k4', not_false_eq_true, decide_true]
    refine call_of (it) ?_
    set_option maxRecDepth 100000 in simp (maxSteps := 10000000) only [go_sem, Nat.reduceAdd, Nat.reduceSub, Nat.reduceMul, Nat.reduceLT, Nat.reduceLeDiff, Nat.reduceEqDiff, Nat.reduceMod, Nat.reduceDiv, Int.reduceNeg, Int.reduceLE, Int.reduceLT, Int.reduceToNat, Int.reduceEq, Int.reduceNe, ↓reduceIte,  Bool.not_true, not_true_eq_false, decide_false]
  case' refine_2 =>
    set_option maxRecDepth 100000 in simp (maxSteps := 10000000) only [go_sem, Nat.reduceAdd, Nat.reduceSub, Nat.reduceMul, Nat.reduceLT, Nat.reduceLeDiff, Nat.reduceEqDiff, Nat.reduceMod, Nat.reduceDiv, Int.reduceNeg, Int.reduceLE, Int.reduceLT, Int.reduceToNat, Int.reduceEq, Int.reduceNe, ↓reduceIte,  k4, not_true_eq_false, decide_false]
  all_goals
    refine loop_by ([12, 14, 15, 43, 44, 45, 46, 47, 48, 49, 50, 51, 52, 53, 54, 55, 56, 57, 58, 59, 60, 61, 62, 63, 64, 65, 66, 67, 68, 69, 70, 71, 72, 73, 74, 75, 76, 77, 78, 79, 80, 81, 82, 83, 84, 85, 86, 87, 88, 89, 90, 91, 92, 93, 94, 95, 96, 97, 98, 99, 100, 101], [2003062099, 14, 98]) (fun x : Nat × Nat × List OName => [(.s 42, .int .i64 (x.1 : Int)), (.s 10, .ref 99 (x.2.2.length + 1)), (.o 14, deadV x.2.1), (.o 98, deadV x.2.2.length), (.o 99, .obj (x.2.2.length + 1) 62 3 false true (x.2.2.map encOName))]) (fun x => libs.length - x.1) (fun x => x.1 ≤ libs.length ∧ x.2.1 = x.1 * d.objects.length ∧ x.2.2.length ≤ x.2.1 ∧ x.2.2 = matchL d.objects (libs.take x.1) r) (0, 0, []) rfl ⟨Nat.zero_le _, (Nat.zero_mul _).symm, Nat.zero_le _, rfl⟩ ?_ ?_
    · set_option maxRecDepth 100000 in simp (maxSteps := 10000000) only [go_sem, Nat.reduceAdd, Nat.reduceSub, Nat.reduceMul, Nat.reduceLT, Nat.reduceLeDiff, Nat.reduceEqDiff, Nat.reduceMod, Nat.reduceDiv, Int.reduceNeg, Int.reduceLE, Int.reduceLT, Int.reduceToNat, Int.reduceEq, Int.reduceNe, ↓reduceIte]
    rintro c' st' hst ⟨i, c, acc⟩ ⟨hi, hc, hal, hf⟩ ih
    simp only at hi hc hal hf
    have ihh := show id _ from ih
    clear ih
    set_option maxRecDepth 100000 in simp (maxSteps := 10000000) only [go_sem, Nat.reduceAdd, Nat.reduceSub, Nat.reduceMul, Nat.reduceLT, Nat.reduceLeDiff, Nat.reduceEqDiff, Nat.reduceMod, Nat.reduceDiv, Int.reduceNeg, Int.reduceLE, Int.reduceLT, Int.reduceToNat, Int.reduceEq, Int.reduceNe, ↓reduceIte]
    refine ifI (fun hlt => ?_) fun hlt => ?_
    case refine_2 =>
      have hz : acc = matchL d.objects libs r := by rw [hf, List.take_of_length_le (by omega)]
      subst hst
      set_option maxRecDepth 100000 in simp (maxSteps := 10000000) only [go_sem, Nat.reduceAdd, Nat.reduceSub, Nat.reduceMul, Nat.reduceLT, Nat.reduceLeDiff, Nat.reduceEqDiff, Nat.reduceMod, Nat.reduceDiv, Int.reduceNeg, Int.reduceLE, Int.reduceLT, Int.reduceToNat, Int.reduceEq, Int.reduceNe, ↓reduceIte,  hlt, hz]
    have hlt' : i < libs.length := by omega
    have hbig : (i + 1) * d.objects.length ≤ 2001 * 1000 := Nat.mul_le_mul (by omega) h
    have hb2 : (i + 1) * d.objects.length = i * d.objects.length + d.objects.length := by rw [Nat.add_mul, Nat.one_mul]
    set_option maxRecDepth 100000 in simp (maxSteps := 10000000) only [go_sem, Nat.reduceAdd, Nat.reduceSub, Nat.reduceMul, Nat.reduceLT, Nat.reduceLeDiff, Nat.reduceEqDiff, Nat.reduceMod, Nat.reduceDiv, Int.reduceNeg, Int.reduceLE, Int.reduceLT, Int.reduceToNat, Int.reduceEq, Int.reduceNe, ↓reduceIte,  hlt, hlt']
    refine loop_by ([14, 15, 50, 51, 52, 53, 54, 55, 56, 57, 58, 59, 60, 61, 62, 63, 64, 65, 66, 67, 68, 69, 70, 71, 72, 73, 74, 75, 76, 77, 78, 79, 80, 81, 82, 83, 84, 85, 86, 87, 88, 89, 90, 91, 92, 93, 94, 95, 96, 97, 98, 99, 100], [14, 98]) (fun x : Nat × List OName => [(.s 49, .int .i64 (x.1 : Int)), (.s 10, .ref 99 (x.2.length + 1)), (.o 14, deadV (c + x.1)), (.o 98, deadV x.2.length), (.o 99, .obj (x.2.length + 1) 62 3 false true (x.2.map encOName))]) (fun x => d.objects.length - x.1) (fun x => x.1 ≤ d.objects.length ∧ x.2.length ≤ c + x.1 ∧ x.2 = acc ++ selL (nth libs i) r (d.objects.take x.1)) (0, acc) rfl ⟨Nat.zero_le _, hal, by rw [List.take_zero]; exact (List.append_nil _).symm⟩ ?_ ?_
    · set_option maxRecDepth 100000 in simp (maxSteps := 10000000) only [go_sem, Nat.reduceAdd, Nat.reduceSub, Nat.reduceMul, Nat.reduceLT, Nat.reduceLeDiff, Nat.reduceEqDiff, Nat.reduceMod, Nat.reduceDiv, Int.reduceNeg, Int.reduceLE, Int.reduceLT, Int.reduceToNat, Int.reduceEq, Int.reduceNe, ↓reduceIte,  Nat.add_zero]
    rintro c2 st2 hst2 ⟨k, ac2⟩ ⟨hk, hal2, hg⟩ ih2
    simp only at hk hal2 hg
    set_option maxRecDepth 100000 in simp (maxSteps := 10000000) only [go_sem, Nat.reduceAdd, Nat.reduceSub, Nat.reduceMul, Nat.reduceLT, Nat.reduceLeDiff, Nat.reduceEqDiff, Nat.reduceMod, Nat.reduceDiv, Int.reduceNeg, Int.reduceLE, Int.reduceLT, Int.reduceToNat, Int.reduceEq, Int.reduceNe, ↓reduceIte]
    refine ifI (fun hlk => ?_) fun hlk => ?_
    case refine_2 =>
      have hkk : k = d.objects.length := by omega
      have hz : ac2 = matchL d.objects (libs.take (i + 1)) r := by rw [hg, matchL_snoc hlt', ← hf, hkk, List.take_length]
      subst hst2
      set_option maxRecDepth 100000 in simp (maxSteps := 10000000) only [go_sem, Nat.reduceAdd, Nat.reduceSub, Nat.reduceMul, Nat.reduceLT, Nat.reduceLeDiff, Nat.reduceEqDiff, Nat.reduceMod, Nat.reduceDiv, Int.reduceNeg, Int.reduceLE, Int.reduceLT, Int.reduceToNat, Int.reduceEq, Int.reduceNe, ↓reduceIte,  hlk, wrap_succ (show i < 9223372036854775807 by omega)]
      refine ihh (i + 1, c + k, ac2) _ ⟨by simp only; omega, by simp only; rw [hb2, hc, hkk], hal2, hz⟩ (by simp only; omega) ?_
      set_option maxRecDepth 100000 in simp (maxSteps := 10000000) only [go_sem, Nat.reduceAdd, Nat.reduceSub, Nat.reduceMul, Nat.reduceLT, Nat.reduceLeDiff, Nat.reduceEqDiff, Nat.reduceMod, Nat.reduceDiv, Int.reduceNeg, Int.reduceLE, Int.reduceLT, Int.reduceToNat, Int.reduceEq, Int.reduceNe, ↓reduceIte]
    have hlk' : k < d.objects.length := by omega
    have hsn := selL_snoc (s := nth libs i) (r := r) hlk'
    have hw : k < 9223372036854775807 := by omega
    have es := encN_snoc ac2 (nth d.objects k).name
    have bb1 : (ac2.length + 1) * 40 ≤ 140737488355328 := by omega
    have bb2 : ac2.length + 1 ≤ maxLen := by unfold maxLen; omega
    have hpx := HasPrefix_good (nth d.objects k).name.name r.name.name
    have hadd : c + (k + 1) = c + k + 1 := rfl
    have yes : selB (nth libs i) r (nth d.objects k).name = true → ac2 ++ [(nth d.objects k).name] = acc ++ selL (nth libs i) r (d.objects.take (k + 1)) := fun z => by rw [hsn, if_pos z, hg, List.append_assoc]
    have no : selB (nth libs i) r (nth d.objects k).name = false → ac2 = acc ++ selL (nth libs i) r (d.objects.take (k + 1)) := fun z => by rw [hsn, if_neg (by rw [z]; decide), hg]
    have hlen1 : (ac2 ++ [(nth d.objects k).name]).length = ac2.length + 1 := by rw [List.length_append]; rfl
    refine Classical.byCases (fun m1 : (nth d.objects k).name.name = r.name.name => ?_) fun m1 => ?_
    · have hM := matchB_self _ r.name m1
      set_option maxRecDepth 100000 in simp (maxSteps := 10000000) only [go_sem, Nat.reduceAdd, Nat.reduceSub, Nat.reduceMul, Nat.reduceLT, Nat.reduceLeDiff, Nat.reduceEqDiff, Nat.reduceMod, Nat.reduceDiv, Int.reduceNeg, Int.reduceLE, Int.reduceLT, Int.reduceToNat, Int.reduceEq, Int.reduceNe, ↓reduceIte,  hlk, hlk', eq_true m1, decide_true]
      refine ifI (fun a1 => ?_) fun a1 => ?_
      case' refine_2 =>
        have hs : selB (nth libs i) r (nth d.objects k).name = false := by rw [selB, show decide ((nth d.objects k).name.lib = nth libs i) = false by simpa using a1, Bool.false_and]
        set_option maxRecDepth 100000 in simp (maxSteps := 10000000) only [go_sem, Nat.reduceAdd, Nat.reduceSub, Nat.reduceMul, Nat.reduceLT, Nat.reduceLeDiff, Nat.reduceEqDiff, Nat.reduceMod, Nat.reduceDiv, Int.reduceNeg, Int.reduceLE, Int.reduceLT, Int.reduceToNat, Int.reduceEq, Int.reduceNe, ↓reduceIte,  a1, decide_false]
        refine ih2 (k + 1, ac2) _ ⟨by simp only; omega, by simp only; omega, no hs⟩ (by simp only; omega) ?_
        set_option maxRecDepth 100000 in simp (maxSteps := 10000000) only [go_sem, Nat.reduceAdd, Nat.reduceSub, Nat.reduceMul, Nat.reduceLT, Nat.reduceLeDiff, Nat.reduceEqDiff, Nat.reduceMod, Nat.reduceDiv, Int.reduceNeg, Int.reduceLE, Int.reduceLT, Int.reduceToNat, Int.reduceEq, Int.reduceNe, ↓reduceIte,  wrap_succ hw, hadd]
      have a1' : (nth d.objects k).name.lib = nth libs i := by simpa using a1
      set_option maxRecDepth 100000 in simp (maxSteps := 10000000) only [go_sem, Nat.reduceAdd, Nat.reduceSub, Nat.reduceMul, Nat.reduceLT, Nat.reduceLeDiff, Nat.reduceEqDiff, Nat.reduceMod, Nat.reduceDiv, Int.reduceNeg, Int.reduceLE, Int.reduceLT, Int.reduceToNat, Int.reduceEq, Int.reduceNe, ↓reduceIte,  eq_true a1', decide_true]
      refine ifI (fun a2 => ?_) fun a2 => ?_
      case' refine_2 =>
        have a2' : r.type = -1 := by simpa using a2
        have hs : selB (nth libs i) r (nth d.objects k).name = true := by rw [selB, decide_eq_true a1', decide_eq_true a2', hM]; rfl
        set_option maxRecDepth 100000 in simp (maxSteps := 10000000) only [go_sem, Nat.reduceAdd, Nat.reduceSub, Nat.reduceMul, Nat.reduceLT, Nat.reduceLeDiff, Nat.reduceEqDiff, Nat.reduceMod, Nat.reduceDiv, Int.reduceNeg, Int.reduceLE, Int.reduceLT, Int.reduceToNat, Int.reduceEq, Int.reduceNe, ↓reduceIte,  eq_true a2', decide_true, hlk, hlk', es, bb1, bb2]
        refine ih2 (k + 1, ac2 ++ [(nth d.objects k).name]) _ ⟨by simp only; omega, by simp only [hlen1]; omega, yes hs⟩ (by simp only; omega) ?_
        set_option maxRecDepth 100000 in simp (maxSteps := 10000000) only [go_sem, Nat.reduceAdd, Nat.reduceSub, Nat.reduceMul, Nat.reduceLT, Nat.reduceLeDiff, Nat.reduceEqDiff, Nat.reduceMod, Nat.reduceDiv, Int.reduceNeg, Int.reduceLE, Int.reduceLT, Int.reduceToNat, Int.reduceEq, Int.reduceNe, ↓reduceIte,  wrap_succ hw, hadd, hlen1]
      have a2' : ¬ r.type = -1 := by simpa using a2
      set_option maxRecDepth 100000 in simp (maxSteps := 10000000) only [go_sem, Nat.reduceAdd, Nat.reduceSub, Nat.reduceMul, Nat.reduceLT, Nat.reduceLeDiff, Nat.reduceEqDiff, Nat.reduceMod, Nat.reduceDiv, Int.reduceNeg, Int.reduceLE, Int.reduceLT, Int.reduceToNat, Int.reduceEq, Int.reduceNe, ↓reduceIte,  a2', decide_false]
      refine ifI (fun a3 => ?_) fun a3 => ?_
      · have a3' : (nth d.objects k).name.type = r.type := by simpa using a3
        have hs : selB (nth libs i) r (nth d.objects k).name = true := by rw [selB, decide_eq_true a1', decide_eq_true a3', hM, Bool.or_true]; rfl
        set_option maxRecDepth 100000 in simp (maxSteps := 10000000) only [go_sem, Nat.reduceAdd, Nat.reduceSub, Nat.reduceMul, Nat.reduceLT, Nat.reduceLeDiff, Nat.reduceEqDiff, Nat.reduceMod, Nat.reduceDiv, Int.reduceNeg, Int.reduceLE, Int.reduceLT, Int.reduceToNat, Int.reduceEq, Int.reduceNe, ↓reduceIte,  eq_true a3', decide_true, hlk, hlk', es, bb1, bb2]
        refine ih2 (k + 1, ac2 ++ [(nth d.objects k).name]) _ ⟨by simp only; omega, by simp only [hlen1]; omega, yes hs⟩ (by simp only; omega) ?_
        set_option maxRecDepth 100000 in simp (maxSteps := 10000000) only [go_sem, Nat.reduceAdd, Nat.reduceSub, Nat.reduceMul, Nat.reduceLT, Nat.reduceLeDiff, Nat.reduceEqDiff, Nat.reduceMod, Nat.reduceDiv, Int.reduceNeg, Int.reduceLE, Int.reduceLT, Int.reduceToNat, Int.reduceEq, Int.reduceNe, ↓reduceIte,  wrap_succ hw, hadd, hlen1]
      · have a3' : ¬ (nth d.objects k).name.type = r.type := by simpa using a3
        have hs : selB (nth libs i) r (nth d.objects k).name = false := by rw [selB, decide_eq_false a2', decide_eq_false a3', Bool.or_false, Bool.false_and, Bool.and_false]
        set_option maxRecDepth 100000 in simp (maxSteps := 10000000) only [go_sem, Nat.reduceAdd, Nat.reduceSub, Nat.reduceMul, Nat.reduceLT, Nat.reduceLeDiff, Nat.reduceEqDiff, Nat.reduceMod, Nat.reduceDiv, Int.reduceNeg, Int.reduceLE, Int.reduceLT, Int.reduceToNat, Int.reduceEq, Int.reduceNe, ↓reduceIte,  a3', decide_false]
        refine ih2 (k + 1, ac2) _ ⟨by simp only; omega, by simp only; omega, no hs⟩ (by simp only; omega) ?_
        set_option maxRecDepth 100000 in simp (maxSteps := 10000000) only [go_sem, Nat.reduceAdd, Nat.reduceSub, Nat.reduceMul, Nat.reduceLT, Nat.reduceLeDiff, Nat.reduceEqDiff, Nat.reduceMod, Nat.reduceDiv, Int.reduceNeg, Int.reduceLE, Int.reduceLT, Int.reduceToNat, Int.reduceEq, Int.reduceNe, ↓reduceIte,  wrap_succ hw, hadd]
    refine Classical.byCases (fun hgen : r.name.generic = true => ?_) fun hgen0 => ?_
    case refine_2 =>
      have hgen : r.name.generic = false := Bool.eq_false_iff.2 hgen0
      have hM : matchB (nth d.objects k).name.name r.name = false := by rw [matchB, if_neg (by rw [hgen]; decide), decide_eq_false m1]
      have hgF : (r.name.generic = true) = False := eq_false (by rw [hgen]; decide)
      set_option maxRecDepth 100000 in simp (maxSteps := 10000000) only [go_sem, Nat.reduceAdd, Nat.reduceSub, Nat.reduceMul, Nat.reduceLT, Nat.reduceLeDiff, Nat.reduceEqDiff, Nat.reduceMod, Nat.reduceDiv, Int.reduceNeg, Int.reduceLE, Int.reduceLT, Int.reduceToNat, Int.reduceEq, Int.reduceNe, ↓reduceIte,  hlk, hlk', m1, hgF, decide_false]
      have hs : selB (nth libs i) r (nth d.objects k).name = false := by rw [selB, hM, Bool.and_false, Bool.and_false]
      refine ifI (fun a1 => ?_) fun a1 => ?_
      case' refine_2 =>
        set_option maxRecDepth 100000 in simp (maxSteps := 10000000) only [go_sem, Nat.reduceAdd, Nat.reduceSub, Nat.reduceMul, Nat.reduceLT, Nat.reduceLeDiff, Nat.reduceEqDiff, Nat.reduceMod, Nat.reduceDiv, Int.reduceNeg, Int.reduceLE, Int.reduceLT, Int.reduceToNat, Int.reduceEq, Int.reduceNe, ↓reduceIte,  a1, decide_false]
      case' refine_1 =>
        have a1' : (nth d.objects k).name.lib = nth libs i := by simpa using a1
        set_option maxRecDepth 100000 in simp (maxSteps := 10000000) only [go_sem, Nat.reduceAdd, Nat.reduceSub, Nat.reduceMul, Nat.reduceLT, Nat.reduceLeDiff, Nat.reduceEqDiff, Nat.reduceMod, Nat.reduceDiv, Int.reduceNeg, Int.reduceLE, Int.reduceLT, Int.reduceToNat, Int.reduceEq, Int.reduceNe, ↓reduceIte,  eq_true a1', decide_true, decide_false]
      all_goals
        refine ih2 (k + 1, ac2) _ ⟨by simp only; omega, by simp only; omega, no hs⟩ (by simp only; omega) ?_
        set_option maxRecDepth 100000 in simp (maxSteps := 10000000) only [go_sem, Nat.reduceAdd, Nat.reduceSub, Nat.reduceMul, Nat.reduceLT, Nat.reduceLeDiff, Nat.reduceEqDiff, Nat.reduceMod, Nat.reduceDiv, Int.reduceNeg, Int.reduceLE, Int.reduceLT, Int.reduceToNat, Int.reduceEq, Int.reduceNe, ↓reduceIte,  wrap_succ hw, hadd]
    case refine_1 =>
      cases hpre : hasPre (nth d.objects k).name.name r.name.name with
      | false =>
        rw [hpre] at hpx
        have hM : matchB (nth d.objects k).name.name r.name = false := by rw [matchB, if_pos hgen, hpre]
        have hgT : (r.name.generic = true) = True := eq_true hgen
        set_option maxRecDepth 100000 in simp (maxSteps := 10000000) only [go_sem, Nat.reduceAdd, Nat.reduceSub, Nat.reduceMul, Nat.reduceLT, Nat.reduceLeDiff, Nat.reduceEqDiff, Nat.reduceMod, Nat.reduceDiv, Int.reduceNeg, Int.reduceLE, Int.reduceLT, Int.reduceToNat, Int.reduceEq, Int.reduceNe, ↓reduceIte,  hlk, hlk', m1, hgT, decide_false]
        refine call_of (hpx) ?_
        set_option maxRecDepth 100000 in simp (maxSteps := 10000000) only [go_sem, Nat.reduceAdd, Nat.reduceSub, Nat.reduceMul, Nat.reduceLT, Nat.reduceLeDiff, Nat.reduceEqDiff, Nat.reduceMod, Nat.reduceDiv, Int.reduceNeg, Int.reduceLE, Int.reduceLT, Int.reduceToNat, Int.reduceEq, Int.reduceNe, ↓reduceIte,  hlk, hlk', hgT]
        have hs : selB (nth libs i) r (nth d.objects k).name = false := by rw [selB, hM, Bool.and_false, Bool.and_false]
        refine ifI (fun a1 => ?_) fun a1 => ?_
        case' refine_2 =>
          set_option maxRecDepth 100000 in simp (maxSteps := 10000000) only [go_sem, Nat.reduceAdd, Nat.reduceSub, Nat.reduceMul, Nat.reduceLT, Nat.reduceLeDiff, Nat.reduceEqDiff, Nat.reduceMod, Nat.reduceDiv, Int.reduceNeg, Int.reduceLE, Int.reduceLT, Int.reduceToNat, Int.reduceEq, Int.reduceNe, ↓reduceIte,  a1, decide_false]
        case' refine_1 =>
          have a1' : (nth d.objects k).name.lib = nth libs i := by simpa using a1
          set_option maxRecDepth 100000 in simp (maxSteps := 10000000) only [go_sem, Nat.reduceAdd, Nat.reduceSub, Nat.reduceMul, Nat.reduceLT, Nat.reduceLeDiff, Nat.reduceEqDiff, Nat.reduceMod, Nat.reduceDiv, Int.reduceNeg, Int.reduceLE, Int.reduceLT, Int.reduceToNat, Int.reduceEq, Int.reduceNe, ↓reduceIte,  eq_true a1', decide_true, decide_false]
        all_goals
          refine ih2 (k + 1, ac2) _ ⟨by simp only; omega, by simp only; omega, no hs⟩ (by simp only; omega) ?_
          set_option maxRecDepth 100000 in simp (maxSteps := 10000000) only [go_sem, Nat.reduceAdd, Nat.reduceSub, Nat.reduceMul, Nat.reduceLT, Nat.reduceLeDiff, Nat.reduceEqDiff, Nat.reduceMod, Nat.reduceDiv, Int.reduceNeg, Int.reduceLE, Int.reduceLT, Int.reduceToNat, Int.reduceEq, Int.reduceNe, ↓reduceIte,  wrap_succ hw, hadd]
      | true =>
        rw [hpre] at hpx
        have hM : matchB (nth d.objects k).name.name r.name = true := by rw [matchB, if_pos hgen, hpre]
        have hgT : (r.name.generic = true) = True := eq_true hgen
        set_option maxRecDepth 100000 in simp (maxSteps := 10000000) only [go_sem, Nat.reduceAdd, Nat.reduceSub, Nat.reduceMul, Nat.reduceLT, Nat.reduceLeDiff, Nat.reduceEqDiff, Nat.reduceMod, Nat.reduceDiv, Int.reduceNeg, Int.reduceLE, Int.reduceLT, Int.reduceToNat, Int.reduceEq, Int.reduceNe, ↓reduceIte,  hlk, hlk', m1, hgT, decide_false]
        refine call_of (hpx) ?_
        set_option maxRecDepth 100000 in simp (maxSteps := 10000000) only [go_sem, Nat.reduceAdd, Nat.reduceSub, Nat.reduceMul, Nat.reduceLT, Nat.reduceLeDiff, Nat.reduceEqDiff, Nat.reduceMod, Nat.reduceDiv, Int.reduceNeg, Int.reduceLE, Int.reduceLT, Int.reduceToNat, Int.reduceEq, Int.reduceNe, ↓reduceIte,  hlk, hlk', hgT]
        refine ifI (fun a1 => ?_) fun a1 => ?_
        case' refine_2 =>
          have hs : selB (nth libs i) r (nth d.objects k).name = false := by rw [selB, show decide ((nth d.objects k).name.lib = nth libs i) = false by simpa using a1, Bool.false_and]
          set_option maxRecDepth 100000 in simp (maxSteps := 10000000) only [go_sem, Nat.reduceAdd, Nat.reduceSub, Nat.reduceMul, Nat.reduceLT, Nat.reduceLeDiff, Nat.reduceEqDiff, Nat.reduceMod, Nat.reduceDiv, Int.reduceNeg, Int.reduceLE, Int.reduceLT, Int.reduceToNat, Int.reduceEq, Int.reduceNe, ↓reduceIte,  a1, decide_false]
          refine ih2 (k + 1, ac2) _ ⟨by simp only; omega, by simp only; omega, no hs⟩ (by simp only; omega) ?_
          set_option maxRecDepth 100000 in simp (maxSteps := 10000000) only [go_sem, Nat.reduceAdd, Nat.reduceSub, Nat.reduceMul, Nat.reduceLT, Nat.reduceLeDiff, Nat.reduceEqDiff, Nat.reduceMod, Nat.reduceDiv, Int.reduceNeg, Int.reduceLE, Int.reduceLT, Int.reduceToNat, Int.reduceEq, Int.reduceNe, ↓reduceIte,  wrap_succ hw, hadd]
        have a1' : (nth d.objects k).name.lib = nth libs i := by simpa using a1
        set_option maxRecDepth 100000 in simp (maxSteps := 10000000) only [go_sem, Nat.reduceAdd, Nat.reduceSub, Nat.reduceMul, Nat.reduceLT, Nat.reduceLeDiff, Nat.reduceEqDiff, Nat.reduceMod, Nat.reduceDiv, Int.reduceNeg, Int.reduceLE, Int.reduceLT, Int.reduceToNat, Int.reduceEq, Int.reduceNe, ↓reduceIte,  eq_true a1', decide_true]
        refine ifI (fun a2 => ?_) fun a2 => ?_
        case' refine_2 =>
          have a2' : r.type = -1 := by simpa using a2
          have hs : selB (nth libs i) r (nth d.objects k).name = true := by rw [selB, decide_eq_true a1', decide_eq_true a2', hM]; rfl
          set_option maxRecDepth 100000 in simp (maxSteps := 10000000) only [go_sem, Nat.reduceAdd, Nat.reduceSub, Nat.reduceMul, Nat.reduceLT, Nat.reduceLeDiff, Nat.reduceEqDiff, Nat.reduceMod, Nat.reduceDiv, Int.reduceNeg, Int.reduceLE, Int.reduceLT, Int.reduceToNat, Int.reduceEq, Int.reduceNe, ↓reduceIte,  eq_true a2', decide_true, hlk, hlk', es, bb1, bb2]
          refine ih2 (k + 1, ac2 ++ [(nth d.objects k).name]) _ ⟨by simp only; omega, by simp only [hlen1]; omega, yes hs⟩ (by simp only; omega) ?_
          set_option maxRecDepth 100000 in simp (maxSteps := 10000000) only [go_sem, Nat.reduceAdd, Nat.reduceSub, Nat.reduceMul, Nat.reduceLT, Nat.reduceLeDiff, Nat.reduceEqDiff, Nat.reduceMod, Nat.reduceDiv, Int.reduceNeg, Int.reduceLE, Int.reduceLT, Int.reduceToNat, Int.reduceEq, Int.reduceNe, ↓reduceIte,  wrap_succ hw, hadd, hlen1]
        have a2' : ¬ r.type = -1 := by simpa using a2
        set_option maxRecDepth 100000 in simp (maxSteps := 10000000) only [go_sem, Nat.reduceAdd, Nat.reduceSub, Nat.reduceMul, Nat.reduceLT, Nat.reduceLeDiff, Nat.reduceEqDiff, Nat.reduceMod, Nat.reduceDiv, Int.reduceNeg, Int.reduceLE, Int.reduceLT, Int.reduceToNat, Int.reduceEq, Int.reduceNe, ↓reduceIte,  a2', decide_false]
        refine ifI (fun a3 => ?_) fun a3 => ?_
        · have a3' : (nth d.objects k).name.type = r.type := by simpa using a3
          have hs : selB (nth libs i) r (nth d.objects k).name = true := by rw [selB, decide_eq_true a1', decide_eq_true a3', hM, Bool.or_true]; rfl
          set_option maxRecDepth 100000 in simp (maxSteps := 10000000) only [go_sem, Nat.reduceAdd, Nat.reduceSub, Nat.reduceMul, Nat.reduceLT, Nat.reduceLeDiff, Nat.reduceEqDiff, Nat.reduceMod, Nat.reduceDiv, Int.reduceNeg, Int.reduceLE, Int.reduceLT, Int.reduceToNat, Int.reduceEq, Int.reduceNe, ↓reduceIte,  eq_true a3', decide_true, hlk, hlk', es, bb1, bb2]
          refine ih2 (k + 1, ac2 ++ [(nth d.objects k).name]) _ ⟨by simp only; omega, by simp only [hlen1]; omega, yes hs⟩ (by simp only; omega) ?_
          set_option maxRecDepth 100000 in simp (maxSteps := 10000000) only [go_sem, Nat.reduceAdd, Nat.reduceSub, Nat.reduceMul, Nat.reduceLT, Nat.reduceLeDiff, Nat.reduceEqDiff, Nat.reduceMod, Nat.reduceDiv, Int.reduceNeg, Int.reduceLE, Int.reduceLT, Int.reduceToNat, Int.reduceEq, Int.reduceNe, ↓reduceIte,  wrap_succ hw, hadd, hlen1]
        · have a3' : ¬ (nth d.objects k).name.type = r.type := by simpa using a3
          have hs : selB (nth libs i) r (nth d.objects k).name = false := by rw [selB, decide_eq_false a2', decide_eq_false a3', Bool.or_false, Bool.false_and, Bool.and_false]
          set_option maxRecDepth 100000 in simp (maxSteps := 10000000) only [go_sem, Nat.reduceAdd, Nat.reduceSub, Nat.reduceMul, Nat.reduceLT, Nat.reduceLeDiff, Nat.reduceEqDiff, Nat.reduceMod, Nat.reduceDiv, Int.reduceNeg, Int.reduceLE, Int.reduceLT, Int.reduceToNat, Int.reduceEq, Int.reduceNe, ↓reduceIte,  a3', decide_false]
          refine ih2 (k + 1, ac2) _ ⟨by simp only; omega, by simp only; omega, no hs⟩ (by simp only; omega) ?_
          set_option maxRecDepth 100000 in simp (maxSteps := 10000000) only [go_sem, Nat.reduceAdd, Nat.reduceSub, Nat.reduceMul, Nat.reduceLT, Nat.reduceLeDiff, Nat.reduceEqDiff, Nat.reduceMod, Nat.reduceDiv, Int.reduceNeg, Int.reduceLE, Int.reduceLT, Int.reduceToNat, Int.reduceEq, Int.reduceNe, ↓reduceIte,  wrap_succ hw, hadd]

set_option maxHeartbeats 16000000 in
theorem RefMatching_good (d : Dir) (libs : List ByteArray) (r : Reso) (h : d.objects.length ≤ 1000) (h5 : libs.length ≤ 2001) :
    Ans Try.prog 27 [.agg (encDir d), .sl (libs.map encStr), .agg (encReso r)] (.sl ((matchL d.objects libs r).map encOName)) := by
  refine good_run [(6, [10, 17, 18, 19, 20, 21, 22, 23, 24, 25, 26, 27, 28, 29, 30, 31, 32, 33, 34, 35, 36, 37, 38, 39, 40, 41, 42, 43, 44, 45, 46, 47, 48, 49, 50, 51, 52, 53, 54, 55, 56, 57, 58, 59], [10, 58]), (3, [9, 10, 11, 12, 13, 14, 15, 16, 17, 18, 19, 20, 21, 22, 23, 24, 25, 26, 27, 28, 29, 30, 31, 32, 33, 34, 35, 36, 37, 38, 39, 40, 41, 42, 43, 44, 45, 46, 47, 48, 49, 50, 51, 52, 53, 54, 55, 56, 57, 58, 59], [1703062059, 10, 58])] mixed Try.func27 rfl Try.ntmps27 (rs := [.tmp 6]) rfl (by decide +kernel) (by kernel_rfl) rfl ?_
  rw [startE_eq 61 _ _ _ rfl rfl]
  set_option maxRecDepth 100000 in simp (maxSteps := 10000000) only [go_sem, Nat.reduceAdd, Nat.reduceSub, Nat.reduceMul, Nat.reduceLT, Nat.reduceLeDiff, Nat.reduceEqDiff, Nat.reduceMod, Nat.reduceDiv, Int.reduceNeg, Int.reduceLE, Int.reduceLT, Int.reduceToNat, Int.reduceEq, Int.reduceNe, ↓reduceIte]
  refine loop_by ([9, 10, 11, 12, 13, 14, 15, 16, 17, 18, 19, 20, 21, 22, 23, 24, 25, 26, 27, 28, 29, 30, 31, 32, 33, 34, 35, 36, 37, 38, 39, 40, 41, 42, 43, 44, 45, 46, 47, 48, 49, 50, 51, 52, 53, 54, 55, 56, 57, 58, 59], [1703062059, 10, 58]) (fun x : Nat × Nat × List OName => [(.s 8, .int .i64 (x.1 : Int)), (.s 7, .ref 59 (x.2.2.length + 1)), (.o 10, deadV x.2.1), (.o 58, deadV x.2.2.length), (.o 59, .obj (x.2.2.length + 1) 62 3 false true (x.2.2.map encOName))]) (fun x => libs.length - x.1) (fun x => x.1 ≤ libs.length ∧ x.2.1 = x.1 * d.objects.length ∧ x.2.2.length ≤ x.2.1 ∧ x.2.2 = matchL d.objects (libs.take x.1) r) (0, 0, []) rfl ⟨Nat.zero_le _, (Nat.zero_mul _).symm, Nat.zero_le _, rfl⟩ ?_ ?_
  · set_option maxRecDepth 100000 in simp (maxSteps := 10000000) only [go_sem, Nat.reduceAdd, Nat.reduceSub, Nat.reduceMul, Nat.reduceLT, Nat.reduceLeDiff, Nat.reduceEqDiff, Nat.reduceMod, Nat.reduceDiv, Int.reduceNeg, Int.reduceLE, Int.reduceLT, Int.reduceToNat, Int.reduceEq, Int.reduceNe, ↓reduceIte]
  rintro c' st' hst ⟨i, c, acc⟩ ⟨hi, hc, hal, hf⟩ ih
  simp only at hi hc hal hf
  have ihh := show id _ from ih
  clear ih
  set_option maxRecDepth 100000 in simp (maxSteps := 10000000) only [go_sem, Nat.reduceAdd, Nat.reduceSub, Nat.reduceMul, Nat.reduceLT, Nat.reduceLeDiff, Nat.reduceEqDiff, Nat.reduceMod, Nat.reduceDiv, Int.reduceNeg, Int.reduceLE, Int.reduceLT, Int.reduceToNat, Int.reduceEq, Int.reduceNe, ↓reduceIte]
  refine ifI (fun hlt => ?_) fun hlt => ?_
  case refine_2 =>
    have hz : acc = matchL d.objects libs r := by rw [hf, List.take_of_length_le (by omega)]
    subst hst
    set_option maxRecDepth 100000 in simp (maxSteps := 10000000) only [go_sem, Nat.reduceAdd, Nat.reduceSub, Nat.reduceMul, Nat.reduceLT, Nat.reduceLeDiff, Nat.reduceEqDiff, Nat.reduceMod, Nat.reduceDiv, Int.reduceNeg, Int.reduceLE, Int.reduceLT, Int.reduceToNat, Int.reduceEq, Int.reduceNe, ↓reduceIte,  hlt, hz]
  have hlt' : i < libs.length := by omega
  have hbig : (i + 1) * d.objects.length ≤ 2001 * 1000 := Nat.mul_le_mul (by omega) h
  have hb2 : (i + 1) * d.objects.length = i * d.objects.length + d.objects.length := by rw [Nat.add_mul, Nat.one_mul]
  set_option maxRecDepth 100000 in simp (maxSteps := 10000000) only [go_sem, Nat.reduceAdd, Nat.reduceSub, Nat.reduceMul, Nat.reduceLT, Nat.reduceLeDiff, Nat.reduceEqDiff, Nat.reduceMod, Nat.reduceDiv, Int.reduceNeg, Int.reduceLE, Int.reduceLT, Int.reduceToNat, Int.reduceEq, Int.reduceNe, ↓reduceIte,  hlt]
  refine loop_by ([10, 17, 18, 19, 20, 21, 22, 23, 24, 25, 26, 27, 28, 29, 30, 31, 32, 33, 34, 35, 36, 37, 38, 39, 40, 41, 42, 43, 44, 45, 46, 47, 48, 49, 50, 51, 52, 53, 54, 55, 56, 57, 58, 59], [10, 58]) (fun x : Nat × List OName => [(.s 9, .int .i64 (x.1 : Int)), (.s 7, .ref 59 (x.2.length + 1)), (.o 10, deadV (c + x.1)), (.o 58, deadV x.2.length), (.o 59, .obj (x.2.length + 1) 62 3 false true (x.2.map encOName))]) (fun x => d.objects.length - x.1) (fun x => x.1 ≤ d.objects.length ∧ x.2.length ≤ c + x.1 ∧ x.2 = acc ++ selL (nth libs i) r (d.objects.take x.1)) (0, acc) rfl ⟨Nat.zero_le _, hal, by rw [List.take_zero]; exact (List.append_nil _).symm⟩ ?_ ?_
  · set_option maxRecDepth 100000 in simp (maxSteps := 10000000) only [go_sem, Nat.reduceAdd, Nat.reduceSub, Nat.reduceMul, Nat.reduceLT, Nat.reduceLeDiff, Nat.reduceEqDiff, Nat.reduceMod, Nat.reduceDiv, Int.reduceNeg, Int.reduceLE, Int.reduceLT, Int.reduceToNat, Int.reduceEq, Int.reduceNe, ↓reduceIte,  Nat.add_zero]
  rintro c2 st2 hst2 ⟨k, ac2⟩ ⟨hk, hal2, hg⟩ ih2
  simp only at hk hal2 hg
  set_option maxRecDepth 100000 in simp (maxSteps := 10000000) only [go_sem, Nat.reduceAdd, Nat.reduceSub, Nat.reduceMul, Nat.reduceLT, Nat.reduceLeDiff, Nat.reduceEqDiff, Nat.reduceMod, Nat.reduceDiv, Int.reduceNeg, Int.reduceLE, Int.reduceLT, Int.reduceToNat, Int.reduceEq, Int.reduceNe, ↓reduceIte]
  refine ifI (fun hlk => ?_) fun hlk => ?_
  case refine_2 =>
    have hkk : k = d.objects.length := by omega
    have hz : ac2 = matchL d.objects (libs.take (i + 1)) r := by rw [hg, matchL_snoc hlt', ← hf, hkk, List.take_length]
    subst hst2
    set_option maxRecDepth 100000 in simp (maxSteps := 10000000) only [go_sem, Nat.reduceAdd, Nat.reduceSub, Nat.reduceMul, Nat.reduceLT, Nat.reduceLeDiff, Nat.reduceEqDiff, Nat.reduceMod, Nat.reduceDiv, Int.reduceNeg, Int.reduceLE, Int.reduceLT, Int.reduceToNat, Int.reduceEq, Int.reduceNe, ↓reduceIte,  hlk, wrap_succ (show i < 9223372036854775807 by omega)]
    refine ihh (i + 1, c + k, ac2) _ ⟨by simp only; omega, by simp only; rw [hb2, hc, hkk], hal2, hz⟩ (by simp only; omega) ?_
    set_option maxRecDepth 100000 in simp (maxSteps := 10000000) only [go_sem, Nat.reduceAdd, Nat.reduceSub, Nat.reduceMul, Nat.reduceLT, Nat.reduceLeDiff, Nat.reduceEqDiff, Nat.reduceMod, Nat.reduceDiv, Int.reduceNeg, Int.reduceLE, Int.reduceLT, Int.reduceToNat, Int.reduceEq, Int.reduceNe, ↓reduceIte]
  have hlk' : k < d.objects.length := by omega
  have hsn := selL_snoc (s := nth libs i) (r := r) hlk'
  have hw : k < 9223372036854775807 := by omega
  have es := encN_snoc ac2 (nth d.objects k).name
  have bb1 : (ac2.length + 1) * 40 ≤ 140737488355328 := by omega
  have bb2 : ac2.length + 1 ≤ maxLen := by unfold maxLen; omega
  have mt := matches_good (nth d.objects k).name.name r.name
  have hadd : c + (k + 1) = c + k + 1 := rfl
  have yes : selB (nth libs i) r (nth d.objects k).name = true → ac2 ++ [(nth d.objects k).name] = acc ++ selL (nth libs i) r (d.objects.take (k + 1)) := fun z => by rw [hsn, if_pos z, hg, List.append_assoc]
  have no : selB (nth libs i) r (nth d.objects k).name = false → ac2 = acc ++ selL (nth libs i) r (d.objects.take (k + 1)) := fun z => by rw [hsn, if_neg (by rw [z]; decide), hg]
  have hlen1 : (ac2 ++ [(nth d.objects k).name]).length = ac2.length + 1 := by rw [List.length_append]; rfl
  refine Classical.byCases (fun a1' : (nth d.objects k).name.lib = nth libs i => ?_) fun a1 => ?_
  case refine_2 =>
    have hs : selB (nth libs i) r (nth d.objects k).name = false := by rw [selB, decide_eq_false a1, Bool.false_and]
    set_option maxRecDepth 100000 in simp (maxSteps := 10000000) only [go_sem, Nat.reduceAdd, Nat.reduceSub, Nat.reduceMul, Nat.reduceLT, Nat.reduceLeDiff, Nat.reduceEqDiff, Nat.reduceMod, Nat.reduceDiv, Int.reduceNeg, Int.reduceLE, Int.reduceLT, Int.reduceToNat, Int.reduceEq, Int.reduceNe, ↓reduceIte,  hlk, hlk', hlt, hlt', a1, decide_false]
    refine ⟨by decide +kernel, ?_⟩
    refine ih2 (k + 1, ac2) _ ⟨by simp only; omega, by simp only; omega, no hs⟩ (by simp only; omega) ?_
    set_option maxRecDepth 100000 in simp (maxSteps := 10000000) only [go_sem, Nat.reduceAdd, Nat.reduceSub, Nat.reduceMul, Nat.reduceLT, Nat.reduceLeDiff, Nat.reduceEqDiff, Nat.reduceMod, Nat.reduceDiv, Int.reduceNeg, Int.reduceLE, Int.reduceLT, Int.reduceToNat, Int.reduceEq, Int.reduceNe, ↓reduceIte,  wrap_succ hw, hadd]
  refine Classical.byCases (fun a2' : r.type = -1 => ?_) fun a2' => ?_
  case' refine_1 =>
    have hT : (decide (r.type = -1) || decide ((nth d.objects k).name.type = r.type)) = true := by rw [decide_eq_true a2', Bool.true_or]
    set_option maxRecDepth 100000 in simp (maxSteps := 10000000) only [go_sem, Nat.reduceAdd, Nat.reduceSub, Nat.reduceMul, Nat.reduceLT, Nat.reduceLeDiff, Nat.reduceEqDiff, Nat.reduceMod, Nat.reduceDiv, Int.reduceNeg, Int.reduceLE, Int.reduceLT, Int.reduceToNat, Int.reduceEq, Int.reduceNe, ↓reduceIte,  hlk, hlk', hlt, hlt', eq_true a1', eq_true a2', decide_true, decide_false]
  case' refine_2 =>
    refine Classical.byCases (fun a3 : r.type = (nth d.objects k).name.type => ?_) fun a3 => ?_
    case refine_2 =>
      have hs : selB (nth libs i) r (nth d.objects k).name = false := by rw [selB, decide_eq_false a2', decide_eq_false (show ¬ (nth d.objects k).name.type = r.type from fun z => a3 z.symm), Bool.or_false, Bool.false_and, Bool.and_false]
      set_option maxRecDepth 100000 in simp (maxSteps := 10000000) only [go_sem, Nat.reduceAdd, Nat.reduceSub, Nat.reduceMul, Nat.reduceLT, Nat.reduceLeDiff, Nat.reduceEqDiff, Nat.reduceMod, Nat.reduceDiv, Int.reduceNeg, Int.reduceLE, Int.reduceLT, Int.reduceToNat, Int.reduceEq, Int.reduceNe, ↓reduceIte,  hlk, hlk', hlt, hlt', eq_true a1', a2', a3, decide_true, decide_false]
      refine ⟨by decide +kernel, ?_⟩
      refine ih2 (k + 1, ac2) _ ⟨by simp only; omega, by simp only; omega, no hs⟩ (by simp only; omega) ?_
      set_option maxRecDepth 100000 in simp (maxSteps := 10000000) only [go_sem, Nat.reduceAdd, Nat.reduceSub, Nat.reduceMul, Nat.reduceLT, Nat.reduceLeDiff, Nat.reduceEqDiff, Nat.reduceMod, Nat.reduceDiv, Int.reduceNeg, Int.reduceLE, Int.reduceLT, Int.reduceToNat, Int.reduceEq, Int.reduceNe, ↓reduceIte,  wrap_succ hw, hadd]
    have hT : (decide (r.type = -1) || decide ((nth d.objects k).name.type = r.type)) = true := by rw [decide_eq_true a3.symm, Bool.or_true]
    set_option maxRecDepth 100000 in simp (maxSteps := 10000000) only [go_sem, Nat.reduceAdd, Nat.reduceSub, Nat.reduceMul, Nat.reduceLT, Nat.reduceLeDiff, Nat.reduceEqDiff, Nat.reduceMod, Nat.reduceDiv, Int.reduceNeg, Int.reduceLE, Int.reduceLT, Int.reduceToNat, Int.reduceEq, Int.reduceNe, ↓reduceIte,  hlk, hlk', hlt, hlt', eq_true a1', a2', eq_true a3, decide_true, decide_false]
  all_goals
    cases hM : matchB (nth d.objects k).name.name r.name with
    | false =>
      rw [hM] at mt
      have hs : selB (nth libs i) r (nth d.objects k).name = false := by rw [selB, hM, Bool.and_false, Bool.and_false]
      refine callD_of (mt) ?_
      set_option maxRecDepth 100000 in simp (maxSteps := 10000000) only [go_sem, Nat.reduceAdd, Nat.reduceSub, Nat.reduceMul, Nat.reduceLT, Nat.reduceLeDiff, Nat.reduceEqDiff, Nat.reduceMod, Nat.reduceDiv, Int.reduceNeg, Int.reduceLE, Int.reduceLT, Int.reduceToNat, Int.reduceEq, Int.reduceNe, ↓reduceIte]
      refine ⟨by decide +kernel, ?_⟩
      refine ih2 (k + 1, ac2) _ ⟨by simp only; omega, by simp only; omega, no hs⟩ (by simp only; omega) ?_
      set_option maxRecDepth 100000 in simp (maxSteps := 10000000) only [go_sem, Nat.reduceAdd, Nat.reduceSub, Nat.reduceMul, Nat.reduceLT, Nat.reduceLeDiff, Nat.reduceEqDiff, Nat.reduceMod, Nat.reduceDiv, Int.reduceNeg, Int.reduceLE, Int.reduceLT, Int.reduceToNat, Int.reduceEq, Int.reduceNe, ↓reduceIte,  wrap_succ hw, hadd]
    | true =>
      rw [hM] at mt
      have hs : selB (nth libs i) r (nth d.objects k).name = true := by rw [selB, decide_eq_true a1', hT, hM]; rfl
      refine callD_of (mt) ?_
      set_option maxRecDepth 100000 in simp (maxSteps := 10000000) only [go_sem, Nat.reduceAdd, Nat.reduceSub, Nat.reduceMul, Nat.reduceLT, Nat.reduceLeDiff, Nat.reduceEqDiff, Nat.reduceMod, Nat.reduceDiv, Int.reduceNeg, Int.reduceLE, Int.reduceLT, Int.reduceToNat, Int.reduceEq, Int.reduceNe, ↓reduceIte,  es, bb1, bb2]
      refine ⟨by decide +kernel, ?_⟩
      refine ih2 (k + 1, ac2 ++ [(nth d.objects k).name]) _ ⟨by simp only; omega, by simp only [hlen1]; omega, yes hs⟩ (by simp only; omega) ?_
      set_option maxRecDepth 100000 in simp (maxSteps := 10000000) only [go_sem, Nat.reduceAdd, Nat.reduceSub, Nat.reduceMul, Nat.reduceLT, Nat.reduceLeDiff, Nat.reduceEqDiff, Nat.reduceMod, Nat.reduceDiv, Int.reduceNeg, Int.reduceLE, Int.reduceLT, Int.reduceToNat, Int.reduceEq, Int.reduceNe, ↓reduceIte,  wrap_succ hw, hadd, hlen1]

set_option maxHeartbeats 8000000 in
theorem sameNames_good (a : List OName) (h : a.length ≤ 10000000) : Ans Try.prog 37 [.sl (a.map encOName), .sl (a.map encOName)] (.bool true) := by
  refine good_run [(4, [4, 11, 12, 13, 14, 15, 16, 17, 18, 19, 20, 21, 22, 23, 24, 25], [])] mixed Try.func37 rfl Try.ntmps37 (rs := [.tmp 4]) rfl (by decide +kernel) (by kernel_rfl) rfl ?_
  rw [startE_eq 26 _ _ _ rfl rfl]
  set_option maxRecDepth 100000 in simp (maxSteps := 10000000) only [go_sem, Nat.reduceAdd, Nat.reduceSub, Nat.reduceMul, Nat.reduceLT, Nat.reduceLeDiff, Nat.reduceEqDiff, Nat.reduceMod, Nat.reduceDiv, Int.reduceNeg, Int.reduceLE, Int.reduceLT, Int.reduceToNat, Int.reduceEq, Int.reduceNe, ↓reduceIte,  not_true_eq_false, decide_false]
  refine loop_by ([4, 11, 12, 13, 14, 15, 16, 17, 18, 19, 20, 21, 22, 23, 24, 25], []) (fun i : Nat => [(.s 5, .int .i64 (i : Int))]) (fun i => a.length - i) (fun i => i ≤ a.length) 0 rfl (Nat.zero_le _) rfl ?_
  rintro c' st' hst i hi ih
  set_option maxRecDepth 100000 in simp (maxSteps := 10000000) only [go_sem, Nat.reduceAdd, Nat.reduceSub, Nat.reduceMul, Nat.reduceLT, Nat.reduceLeDiff, Nat.reduceEqDiff, Nat.reduceMod, Nat.reduceDiv, Int.reduceNeg, Int.reduceLE, Int.reduceLT, Int.reduceToNat, Int.reduceEq, Int.reduceNe, ↓reduceIte]
  refine ifI (fun hlt => ?_) fun hlt => ?_
  case refine_2 =>
    subst hst
    set_option maxRecDepth 100000 in simp (maxSteps := 10000000) only [go_sem, Nat.reduceAdd, Nat.reduceSub, Nat.reduceMul, Nat.reduceLT, Nat.reduceLeDiff, Nat.reduceEqDiff, Nat.reduceMod, Nat.reduceDiv, Int.reduceNeg, Int.reduceLE, Int.reduceLT, Int.reduceToNat, Int.reduceEq, Int.reduceNe, ↓reduceIte,  hlt]
  have hlt' : i < a.length := by omega
  set_option maxRecDepth 100000 in simp (maxSteps := 10000000) only [go_sem, Nat.reduceAdd, Nat.reduceSub, Nat.reduceMul, Nat.reduceLT, Nat.reduceLeDiff, Nat.reduceEqDiff, Nat.reduceMod, Nat.reduceDiv, Int.reduceNeg, Int.reduceLE, Int.reduceLT, Int.reduceToNat, Int.reduceEq, Int.reduceNe, ↓reduceIte,  hlt, hlt', Bool.not_true, eq_self, decide_true, Bool.and_true]
  refine ⟨by decide +kernel, ?_⟩
  refine ih (i + 1) _ (by omega) (by omega) ?_
  set_option maxRecDepth 100000 in simp (maxSteps := 10000000) only [go_sem, Nat.reduceAdd, Nat.reduceSub, Nat.reduceMul, Nat.reduceLT, Nat.reduceLeDiff, Nat.reduceEqDiff, Nat.reduceMod, Nat.reduceDiv, Int.reduceNeg, Int.reduceLE, Int.reduceLT, Int.reduceToNat, Int.reduceEq, Int.reduceNe, ↓reduceIte,  wrap_succ (show i < 9223372036854775807 by omega)]
end Go.Proofs.Ytppjmigiogddpaa.C08
