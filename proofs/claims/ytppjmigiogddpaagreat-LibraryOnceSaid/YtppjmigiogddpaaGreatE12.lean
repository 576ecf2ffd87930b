
/- Chapter 9: types; how a request is resolved. -/
import Derived.Test.YtppjmigiogddpaaGreatE10
namespace Go.Proofs.YtppjmigiogddpaaGreat.C08
open Go Go.Proofs Go.Proofs.YtppjmigiogddpaaGreat.Ab
set_option linter.unusedSimpArgs false
set_option linter.unusedVariables false
attribute [local congr] ite_ctx

theorem oname_mk {n : OName} {a b : ByteArray} {c : Int} : n = ⟨a, b, c⟩ ↔ n.lib = a ∧ n.name = b ∧ n.type = c := by
  cases n; simp
def tyNm (t : Int) : ByteArray := if inB t 0 29 = true then (nth kinds t.toNat).1 else ⟨#[]⟩
def tyE (t : Int) : Int := if inB t 0 29 = true then 0 else 4
theorem inB_iff (t : Int) : inB t 0 29 = true ↔ 0 ≤ t ∧ t ≤ 29 := by
  rw [inB]; simp
theorem TypeName_good (t : Int) : Ans Tryz.prog 95 [.int .i64 t] (.tup [.str (tyNm t), .int .i64 (tyE t)]) := by
  have it := isType_good t
  cases h : inB t 0 29 with
  | false =>
    rw [h] at it
    rw [tyNm, tyE, if_neg (by rw [h]; decide), if_neg (by rw [h]; decide)]
    refine good_run [] mixed Tryz.func95 rfl Tryz.ntmps95 (rs := [.tmp 2, .tmp 3]) rfl (by decide +kernel) (by kernel_rfl) rfl ?_
    rw [startE_eq 12 _ _ _ rfl rfl]
    set_option maxRecDepth 100000 in simp (maxSteps := 10000000) only [go_sem, Nat.reduceAdd, Nat.reduceSub, Nat.reduceMul, Nat.reduceLT, Nat.reduceLeDiff, Nat.reduceEqDiff, Nat.reduceMod, Nat.reduceDiv, Int.reduceNeg, Int.reduceLE, Int.reduceLT, Int.reduceToNat, Int.reduceEq, Int.reduceNe, ↓reduceIte]
    refine call_of (it) ?_
    set_option maxRecDepth 100000 in simp (maxSteps := 10000000) only [go_sem, Nat.reduceAdd, Nat.reduceSub, Nat.reduceMul, Nat.reduceLT, Nat.reduceLeDiff, Nat.reduceEqDiff, Nat.reduceMod, Nat.reduceDiv, Int.reduceNeg, Int.reduceLE, Int.reduceLT, Int.reduceToNat, Int.reduceEq, Int.reduceNe, ↓reduceIte,  Bool.not_false]
  | true =>
    rw [h] at it
    rw [tyNm, tyE, if_pos h, if_pos h]
    obtain ⟨h1, h2⟩ := (inB_iff t).1 h
    obtain ⟨k, rfl⟩ : ∃ k : Nat, t = (k : Int) := ⟨t.toNat, by omega⟩
    have hk : k < kinds.length := by have : kinds.length = 30 := by decide
                                     omega
    have kg := kinds_good
    rw [Int.toNat_natCast]
    generalize kinds = K at *
    refine good_run [] mixed Tryz.func95 rfl Tryz.ntmps95 (rs := [.tmp 2, .tmp 3]) rfl (by decide +kernel) (by kernel_rfl) rfl ?_
    rw [startE_eq 12 _ _ _ rfl rfl]
    set_option maxRecDepth 100000 in simp (maxSteps := 10000000) only [go_sem, Nat.reduceAdd, Nat.reduceSub, Nat.reduceMul, Nat.reduceLT, Nat.reduceLeDiff, Nat.reduceEqDiff, Nat.reduceMod, Nat.reduceDiv, Int.reduceNeg, Int.reduceLE, Int.reduceLT, Int.reduceToNat, Int.reduceEq, Int.reduceNe, ↓reduceIte]
    refine call_of (it) ?_
    set_option maxRecDepth 100000 in simp (maxSteps := 10000000) only [go_sem, Nat.reduceAdd, Nat.reduceSub, Nat.reduceMul, Nat.reduceLT, Nat.reduceLeDiff, Nat.reduceEqDiff, Nat.reduceMod, Nat.reduceDiv, Int.reduceNeg, Int.reduceLE, Int.reduceLT, Int.reduceToNat, Int.reduceEq, Int.reduceNe, ↓reduceIte,  Bool.not_true]
    refine call_of (kg) ?_
    set_option maxRecDepth 100000 in simp (maxSteps := 10000000) only [go_sem, Nat.reduceAdd, Nat.reduceSub, Nat.reduceMul, Nat.reduceLT, Nat.reduceLeDiff, Nat.reduceEqDiff, Nat.reduceMod, Nat.reduceDiv, Int.reduceNeg, Int.reduceLE, Int.reduceLT, Int.reduceToNat, Int.reduceEq, Int.reduceNe, ↓reduceIte,  hk]
theorem isTy_good (t : Int) : Ans Tryz.prog 54 [.int .i64 t] (.bool (inB t 0 29)) := by
  have tn := TypeName_good t
  refine good_run [] mixed Tryz.func54 rfl Tryz.ntmps54 (rs := [.tmp 2]) rfl (by decide +kernel) (by kernel_rfl) rfl ?_
  rw [startE_eq 12 _ _ _ rfl rfl]
  set_option maxRecDepth 100000 in simp (maxSteps := 10000000) only [go_sem, Nat.reduceAdd, Nat.reduceSub, Nat.reduceMul, Nat.reduceLT, Nat.reduceLeDiff, Nat.reduceEqDiff, Nat.reduceMod, Nat.reduceDiv, Int.reduceNeg, Int.reduceLE, Int.reduceLT, Int.reduceToNat, Int.reduceEq, Int.reduceNe, ↓reduceIte]
  refine call_of (tn) ?_
  set_option maxRecDepth 100000 in simp (maxSteps := 10000000) only [go_sem, Nat.reduceAdd, Nat.reduceSub, Nat.reduceMul, Nat.reduceLT, Nat.reduceLeDiff, Nat.reduceEqDiff, Nat.reduceMod, Nat.reduceDiv, Int.reduceNeg, Int.reduceLE, Int.reduceLT, Int.reduceToNat, Int.reduceEq, Int.reduceNe, ↓reduceIte]
  rw [tyE]
  cases inB t 0 29 <;> decide

def resF (objs : List Obj) (n : OName) : Option Int := objs.findSome? fun o => if o.name = n then some o.seg else none
def resL (objs : List Obj) (libs : List ByteArray) (r : Reso) : Option Int := libs.findSome? fun s => resF objs ⟨s, r.name.name, r.type⟩
def resoR (d : Dir) (l : LList) (r : Reso) : Int × Int := if ¬ libsE d l r.name = 0 then (0, libsE d l r.name) else if r.name.generic = true then (0, 5) else if inB r.type 0 29 = false then (0, 4) else
  match resL d.objects (libsP d l r.name) r with
  | none => (0, 11)
  | some v => (v, 0)

theorem resF_hit {objs : List Obj} {n : OName} {k : Nat} (h : k < objs.length) (hn : (nth objs k).name = n) : resF (objs.drop k) n = some (nth objs k).seg := by
  rw [drop_nth h, resF, List.findSome?_cons, if_pos hn]
theorem resF_skip {objs : List Obj} {n : OName} {k : Nat} (h : k < objs.length) (hn : ¬ (nth objs k).name = n) : resF (objs.drop k) n = resF (objs.drop (k + 1)) n := by
  rw [drop_nth h, resF, List.findSome?_cons, if_neg hn]; rfl
theorem resL_hit {objs : List Obj} {libs : List ByteArray} {r : Reso} {i : Nat} {v : Int} (h : i < libs.length) (hn : resF objs ⟨nth libs i, r.name.name, r.type⟩ = some v) : resL objs (libs.drop i) r = some v := by
  rw [drop_nth h, resL, List.findSome?_cons, hn]
theorem resL_skip {objs : List Obj} {libs : List ByteArray} {r : Reso} {i : Nat} (h : i < libs.length) (hn : resF objs ⟨nth libs i, r.name.name, r.type⟩ = none) : resL objs (libs.drop i) r = resL objs (libs.drop (i + 1)) r := by
  rw [drop_nth h, resL, List.findSome?_cons, hn]; rfl

set_option maxHeartbeats 8000000 in
theorem Resolve_good (d : Dir) (l : LList) (r : Reso) (h : d.objects.length ≤ 1000000) (h1 : l.system.length ≤ 1000) (h2 : l.user.length ≤ 1000) (h3 : r.name.lib.size ≤ 1000) (h4 : r.name.name.size ≤ 1000) (h5 : (libsP d l r.name).length ≤ 1000000) :
    Ans Tryz.prog 22 [.agg (encDir d), .agg (encLL l), .agg (encReso r)] (.tup [.int .i64 (resoR d l r).1, .int .i64 (resoR d l r).2]) := by
  have lf := LibrariesFor_good d l r.name h h1 h2 h3 h4
  have it := isTy_good r.type
  refine Classical.byCases (fun k1 : libsE d l r.name = 0 => ?_) fun k1 => ?_
  case refine_2 =>
    have he : resoR d l r = (0, libsE d l r.name) := by rw [resoR, if_pos k1]
    rw [he]
    refine good_run [(12, [6, 7, 13, 45, 46, 47, 48, 49, 50, 51, 52, 53, 54, 55, 56, 57, 58, 59, 60], [13, 13]), (9, [6, 7, 11, 13, 38, 39, 40, 41, 42, 43, 44, 45, 46, 47, 48, 49, 50, 51, 52, 53, 54, 55, 56, 57, 58, 59, 60, 61], [13, 13])] mixed Tryz.func22 rfl Tryz.ntmps22 (rs := [.tmp 6, .tmp 7]) rfl (by decide +kernel) (by kernel_rfl) rfl ?_
    rw [startE_eq 62 _ _ _ rfl rfl]
    set_option maxRecDepth 100000 in simp (maxSteps := 10000000) only [go_sem, Nat.reduceAdd, Nat.reduceSub, Nat.reduceMul, Nat.reduceLT, Nat.reduceLeDiff, Nat.reduceEqDiff, Nat.reduceMod, Nat.reduceDiv, Int.reduceNeg, Int.reduceLE, Int.reduceLT, Int.reduceToNat, Int.reduceEq, Int.reduceNe, ↓reduceIte]
    refine call_of (lf) ?_
    set_option maxRecDepth 100000 in simp (maxSteps := 10000000) only [go_sem, Nat.reduceAdd, Nat.reduceSub, Nat.reduceMul, Nat.reduceLT, Nat.reduceLeDiff, Nat.reduceEqDiff, Nat.reduceMod, Nat.reduceDiv, Int.reduceNeg, Int.reduceLE, Int.reduceLT, Int.reduceToNat, Int.reduceEq, Int.reduceNe, ↓reduceIte,  k1, not_false_eq_true, decide_true]
  cases k2 : r.name.generic with
  | true =>
    have he : resoR d l r = (0, 5) := by rw [resoR, if_neg (not_not_intro k1), if_pos k2]
    rw [he]
    refine good_run [(12, [6, 7, 13, 45, 46, 47, 48, 49, 50, 51, 52, 53, 54, 55, 56, 57, 58, 59, 60], [13, 13]), (9, [6, 7, 11, 13, 38, 39, 40, 41, 42, 43, 44, 45, 46, 47, 48, 49, 50, 51, 52, 53, 54, 55, 56, 57, 58, 59, 60, 61], [13, 13])] mixed Tryz.func22 rfl Tryz.ntmps22 (rs := [.tmp 6, .tmp 7]) rfl (by decide +kernel) (by kernel_rfl) rfl ?_
    rw [startE_eq 62 _ _ _ rfl rfl]
    set_option maxRecDepth 100000 in simp (maxSteps := 10000000) only [go_sem, Nat.reduceAdd, Nat.reduceSub, Nat.reduceMul, Nat.reduceLT, Nat.reduceLeDiff, Nat.reduceEqDiff, Nat.reduceMod, Nat.reduceDiv, Int.reduceNeg, Int.reduceLE, Int.reduceLT, Int.reduceToNat, Int.reduceEq, Int.reduceNe, ↓reduceIte]
    refine call_of (lf) ?_
    set_option maxRecDepth 100000 in simp (maxSteps := 10000000) only [go_sem, Nat.reduceAdd, Nat.reduceSub, Nat.reduceMul, Nat.reduceLT, Nat.reduceLeDiff, Nat.reduceEqDiff, Nat.reduceMod, Nat.reduceDiv, Int.reduceNeg, Int.reduceLE, Int.reduceLT, Int.reduceToNat, Int.reduceEq, Int.reduceNe, ↓reduceIte,  k1, not_true_eq_false, decide_false, k2]
  | false =>
  cases k3 : inB r.type 0 29 with
  | false =>
    have he : resoR d l r = (0, 4) := by rw [resoR, if_neg (not_not_intro k1), if_neg (by rw [k2]; decide), if_pos k3]
    rw [he]
    rw [k3] at it
    refine good_run [(12, [6, 7, 13, 45, 46, 47, 48, 49, 50, 51, 52, 53, 54, 55, 56, 57, 58, 59, 60], [13, 13]), (9, [6, 7, 11, 13, 38, 39, 40, 41, 42, 43, 44, 45, 46, 47, 48, 49, 50, 51, 52, 53, 54, 55, 56, 57, 58, 59, 60, 61], [13, 13])] mixed Tryz.func22 rfl Tryz.ntmps22 (rs := [.tmp 6, .tmp 7]) rfl (by decide +kernel) (by kernel_rfl) rfl ?_
    rw [startE_eq 62 _ _ _ rfl rfl]
    set_option maxRecDepth 100000 in simp (maxSteps := 10000000) only [go_sem, Nat.reduceAdd, Nat.reduceSub, Nat.reduceMul, Nat.reduceLT, Nat.reduceLeDiff, Nat.reduceEqDiff, Nat.reduceMod, Nat.reduceDiv, Int.reduceNeg, Int.reduceLE, Int.reduceLT, Int.reduceToNat, Int.reduceEq, Int.reduceNe, ↓reduceIte]
    refine call_of (lf) ?_
    set_option maxRecDepth 100000 in simp (maxSteps := 10000000) only [go_sem, Nat.reduceAdd, Nat.reduceSub, Nat.reduceMul, Nat.reduceLT, Nat.reduceLeDiff, Nat.reduceEqDiff, Nat.reduceMod, Nat.reduceDiv, Int.reduceNeg, Int.reduceLE, Int.reduceLT, Int.reduceToNat, Int.reduceEq, Int.reduceNe, ↓reduceIte,  k1, not_true_eq_false, decide_false, k2]
    refine call_of (it) ?_
    set_option maxRecDepth 100000 in simp (maxSteps := 10000000) only [go_sem, Nat.reduceAdd, Nat.reduceSub, Nat.reduceMul, Nat.reduceLT, Nat.reduceLeDiff, Nat.reduceEqDiff, Nat.reduceMod, Nat.reduceDiv, Int.reduceNeg, Int.reduceLE, Int.reduceLT, Int.reduceToNat, Int.reduceEq, Int.reduceNe, ↓reduceIte,  Bool.not_false]
  | true =>
  have he : resoR d l r = match resL d.objects (libsP d l r.name) r with
    | none => (0, 11)
    | some v => (v, 0) := by rw [resoR, if_neg (not_not_intro k1), if_neg (by rw [k2]; decide), if_neg (by rw [k3]; decide)]
  rw [k3] at it
  rw [k1] at lf
  generalize libsP d l r.name = libs at *
  refine good_run [(12, [6, 7, 13, 45, 46, 47, 48, 49, 50, 51, 52, 53, 54, 55, 56, 57, 58, 59, 60], [13, 13]), (9, [6, 7, 11, 13, 38, 39, 40, 41, 42, 43, 44, 45, 46, 47, 48, 49, 50, 51, 52, 53, 54, 55, 56, 57, 58, 59, 60, 61], [13, 13])] mixed Tryz.func22 rfl Tryz.ntmps22 (rs := [.tmp 6, .tmp 7]) rfl (by decide +kernel) (by kernel_rfl) rfl ?_
  rw [startE_eq 62 _ _ _ rfl rfl]
  set_option maxRecDepth 100000 in simp (maxSteps := 10000000) only [go_sem, Nat.reduceAdd, Nat.reduceSub, Nat.reduceMul, Nat.reduceLT, Nat.reduceLeDiff, Nat.reduceEqDiff, Nat.reduceMod, Nat.reduceDiv, Int.reduceNeg, Int.reduceLE, Int.reduceLT, Int.reduceToNat, Int.reduceEq, Int.reduceNe, ↓reduceIte]
  refine call_of (lf) ?_
  set_option maxRecDepth 100000 in simp (maxSteps := 10000000) only [go_sem, Nat.reduceAdd, Nat.reduceSub, Nat.reduceMul, Nat.reduceLT, Nat.reduceLeDiff, Nat.reduceEqDiff, Nat.reduceMod, Nat.reduceDiv, Int.reduceNeg, Int.reduceLE, Int.reduceLT, Int.reduceToNat, Int.reduceEq, Int.reduceNe, ↓reduceIte,  not_true_eq_false, decide_false, k2]
  refine call_of (it) ?_
  set_option maxRecDepth 100000 in simp (maxSteps := 10000000) only [go_sem, Nat.reduceAdd, Nat.reduceSub, Nat.reduceMul, Nat.reduceLT, Nat.reduceLeDiff, Nat.reduceEqDiff, Nat.reduceMod, Nat.reduceDiv, Int.reduceNeg, Int.reduceLE, Int.reduceLT, Int.reduceToNat, Int.reduceEq, Int.reduceNe, ↓reduceIte,  Bool.not_true]
  refine loop_by ([6, 7, 11, 13, 38, 39, 40, 41, 42, 43, 44, 45, 46, 47, 48, 49, 50, 51, 52, 53, 54, 55, 56, 57, 58, 59, 60, 61], [13, 13]) (fun x : Nat × Nat => [(.s 37, .int .i64 (x.1 : Int)), (.o 13, deadV x.2)]) (fun x => libs.length - x.1) (fun x => x.1 ≤ libs.length ∧ resL d.objects libs r = resL d.objects (libs.drop x.1) r) (0, 0) rfl ⟨Nat.zero_le _, rfl⟩ rfl ?_
  rintro c' st' hst ⟨i, c⟩ ⟨hi, hf⟩ ih
  simp only at hi hf
  have ihh := show id _ from ih
  clear ih
  set_option maxRecDepth 100000 in simp (maxSteps := 10000000) only [go_sem, Nat.reduceAdd, Nat.reduceSub, Nat.reduceMul, Nat.reduceLT, Nat.reduceLeDiff, Nat.reduceEqDiff, Nat.reduceMod, Nat.reduceDiv, Int.reduceNeg, Int.reduceLE, Int.reduceLT, Int.reduceToNat, Int.reduceEq, Int.reduceNe, ↓reduceIte]
  refine ifI (fun hlt => ?_) fun hlt => ?_
  case refine_2 =>
    have hz : resL d.objects libs r = none := by rw [hf, List.drop_eq_nil_of_le (by omega)]; rfl
    rw [he, hz]
    subst hst
    set_option maxRecDepth 100000 in simp (maxSteps := 10000000) only [go_sem, Nat.reduceAdd, Nat.reduceSub, Nat.reduceMul, Nat.reduceLT, Nat.reduceLeDiff, Nat.reduceEqDiff, Nat.reduceMod, Nat.reduceDiv, Int.reduceNeg, Int.reduceLE, Int.reduceLT, Int.reduceToNat, Int.reduceEq, Int.reduceNe, ↓reduceIte,  hlt]
  have hlt' : i < libs.length := by omega
  set_option maxRecDepth 100000 in simp (maxSteps := 10000000) only [go_sem, Nat.reduceAdd, Nat.reduceSub, Nat.reduceMul, Nat.reduceLT, Nat.reduceLeDiff, Nat.reduceEqDiff, Nat.reduceMod, Nat.reduceDiv, Int.reduceNeg, Int.reduceLE, Int.reduceLT, Int.reduceToNat, Int.reduceEq, Int.reduceNe, ↓reduceIte,  hlt, hlt']
  refine loop_by ([6, 7, 13, 45, 46, 47, 48, 49, 50, 51, 52, 53, 54, 55, 56, 57, 58, 59, 60], [13, 13]) (fun k : Nat => [(.s 44, .int .i64 (k : Int)), (.o 13, deadV (c + k))]) (fun k => d.objects.length - k) (fun k => k ≤ d.objects.length ∧ resF d.objects ⟨nth libs i, r.name.name, r.type⟩ = resF (d.objects.drop k) ⟨nth libs i, r.name.name, r.type⟩) 0 rfl ⟨Nat.zero_le _, rfl⟩ rfl ?_
  rintro c2 st2 hst2 k ⟨hk, hg⟩ ih2
  set_option maxRecDepth 100000 in simp (maxSteps := 10000000) only [go_sem, Nat.reduceAdd, Nat.reduceSub, Nat.reduceMul, Nat.reduceLT, Nat.reduceLeDiff, Nat.reduceEqDiff, Nat.reduceMod, Nat.reduceDiv, Int.reduceNeg, Int.reduceLE, Int.reduceLT, Int.reduceToNat, Int.reduceEq, Int.reduceNe, ↓reduceIte]
  refine ifI (fun hlk => ?_) fun hlk => ?_
  case refine_2 =>
    have hz : resF d.objects ⟨nth libs i, r.name.name, r.type⟩ = none := by rw [hg, List.drop_eq_nil_of_le (by omega)]; rfl
    subst hst2
    set_option maxRecDepth 100000 in simp (maxSteps := 10000000) only [go_sem, Nat.reduceAdd, Nat.reduceSub, Nat.reduceMul, Nat.reduceLT, Nat.reduceLeDiff, Nat.reduceEqDiff, Nat.reduceMod, Nat.reduceDiv, Int.reduceNeg, Int.reduceLE, Int.reduceLT, Int.reduceToNat, Int.reduceEq, Int.reduceNe, ↓reduceIte,  hlk, wrap_succ (show i < 9223372036854775807 by omega)]
    refine ihh (i + 1, c + k) _ ⟨by simp only; omega, ?_⟩ (by simp only; omega) ?_
    · exact hf.trans (resL_skip hlt' hz)
    · set_option maxRecDepth 100000 in simp (maxSteps := 10000000) only [go_sem, Nat.reduceAdd, Nat.reduceSub, Nat.reduceMul, Nat.reduceLT, Nat.reduceLeDiff, Nat.reduceEqDiff, Nat.reduceMod, Nat.reduceDiv, Int.reduceNeg, Int.reduceLE, Int.reduceLT, Int.reduceToNat, Int.reduceEq, Int.reduceNe, ↓reduceIte]
  have hlk' : k < d.objects.length := by omega
  set_option maxRecDepth 100000 in simp (maxSteps := 10000000) only [go_sem, Nat.reduceAdd, Nat.reduceSub, Nat.reduceMul, Nat.reduceLT, Nat.reduceLeDiff, Nat.reduceEqDiff, Nat.reduceMod, Nat.reduceDiv, Int.reduceNeg, Int.reduceLE, Int.reduceLT, Int.reduceToNat, Int.reduceEq, Int.reduceNe, ↓reduceIte,  hlk, hlk', name_eq]
  refine ifI (fun hn => ?_) fun hn => ?_
  · have hn' : (nth d.objects k).name = ⟨nth libs i, r.name.name, r.type⟩ := by rw [oname_mk]; simpa using hn
    have hz := hf.trans (resL_hit hlt' (hg.trans (resF_hit hlk' hn')))
    rw [he, hz]
    set_option maxRecDepth 100000 in simp (maxSteps := 10000000) only [go_sem, Nat.reduceAdd, Nat.reduceSub, Nat.reduceMul, Nat.reduceLT, Nat.reduceLeDiff, Nat.reduceEqDiff, Nat.reduceMod, Nat.reduceDiv, Int.reduceNeg, Int.reduceLE, Int.reduceLT, Int.reduceToNat, Int.reduceEq, Int.reduceNe, ↓reduceIte]
  · have hn' : ¬ (nth d.objects k).name = ⟨nth libs i, r.name.name, r.type⟩ := by rw [oname_mk]; simpa using hn
    set_option maxRecDepth 100000 in simp (maxSteps := 10000000) only [go_sem, Nat.reduceAdd, Nat.reduceSub, Nat.reduceMul, Nat.reduceLT, Nat.reduceLeDiff, Nat.reduceEqDiff, Nat.reduceMod, Nat.reduceDiv, Int.reduceNeg, Int.reduceLE, Int.reduceLT, Int.reduceToNat, Int.reduceEq, Int.reduceNe, ↓reduceIte,  wrap_succ (show k < 9223372036854775807 by omega)]
    refine ih2 (k + 1) _ ⟨by omega, hg.trans (resF_skip hlk' hn')⟩ (by omega) ?_
    set_option maxRecDepth 100000 in simp (maxSteps := 10000000) only [go_sem, Nat.reduceAdd, Nat.reduceSub, Nat.reduceMul, Nat.reduceLT, Nat.reduceLeDiff, Nat.reduceEqDiff, Nat.reduceMod, Nat.reduceDiv, Int.reduceNeg, Int.reduceLE, Int.reduceLT, Int.reduceToNat, Int.reduceEq, Int.reduceNe, ↓reduceIte,  show c + (k + 1) = c + k + 1 from rfl]
end Go.Proofs.YtppjmigiogddpaaGreat.C08
