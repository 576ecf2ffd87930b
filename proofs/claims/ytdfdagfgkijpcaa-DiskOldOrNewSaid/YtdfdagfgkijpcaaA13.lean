/- Chapter 6: runs of writes: what is needed, and their errors. -/
import Derived.Test.YtdfdagfgkijpcaaA12
namespace Go.Proofs.Ytdfdagfgkijpcaa.C06
open Go Go.Proofs Go.Proofs.Ytdfdagfgkijpcaa.Ab
set_option linter.unusedSimpArgs false
set_option linter.unusedVariables false
attribute [local congr] ite_ctx

theorem sumGo16 {d : Disk} : ∀ {l : List Nat} {b c : ByteArray}, b.size = 16 → sumGo d l b = some c → c.size = 16
  | [], b, c, hb, h => by simp only [sumGo, Option.some.injEq] at h; subst h; exact hb
  | i :: l, b, c, hb, h => by
    simp only [sumGo] at h
    split at h
    · exact sumGo16 (size_xorB _ _) h
    · cases h
theorem okW_some {l x : List UW} (h : okW l = some x) : x = l := by
  unfold okW at h; split at h
  · cases h
  · cases h; rfl
/-- What is known of the writes that a write makes. -/
structure Ws1 (d : Disk) (x : List UW) : Prop where
  ok : ∀ y ∈ x, okW1 d y
  s16 : ∀ y ∈ x, y.bytes.size = 16
  len : x.length ≤ 5
theorem writes_ws {d : Disk} (h : Okd d) {s : Nat} (hs : s < d.count) {b : ByteArray} (hb : b.size = 16) {x : List UW} (hx : d.writes s b = some x) : Ws1 d x := by
  have hU := h.pU_lt s
  have hP := h.pP_lt s
  have hA := h.pA_lt hs
  have h5 := h.n5
  have nat1 : ∀ (u k : Nat) (c : ByteArray), u < d.n → (d.at u).state ≠ 1 → k < d.sz → okW1 d ⟨(u : Nat), (k : Nat), c⟩ := fun u k c hu hst hk => by
    refine ⟨by simp, by simp; omega, by simp, ?_⟩
    simp only [Int.toNat_natCast]
    rw [h.len u hu hst]; exact hk
  have dat : Ws1 d (d.dataW s b) := by
    unfold Disk.dataW
    split
    · exact ⟨fun y hy => (by cases hy), fun y hy => (by cases hy), by simp⟩
    · rename_i hu
      refine ⟨fun y hy => ?_, fun y hy => ?_, by simp⟩
      · simp only [List.mem_cons, List.not_mem_nil, or_false] at hy; subst hy; exact nat1 _ _ _ hU hu hA
      · simp only [List.mem_cons, List.not_mem_nil, or_false] at hy; subst hy; exact hb
  unfold Disk.writes at hx
  split at hx
  · split at hx
    · rw [okW_some hx]; exact dat
    · rename_i hp
      split at hx
      · rename_i c hc
        cases hx
        refine ⟨fun y hy => ?_, fun y hy => ?_, ?_⟩
        · rcases List.mem_append.1 hy with hy | hy
          · exact dat.ok y hy
          · simp only [List.mem_cons, List.not_mem_nil, or_false] at hy; subst hy; exact nat1 _ _ _ hP hp hA
        · rcases List.mem_append.1 hy with hy | hy
          · exact dat.s16 y hy
          · simp only [List.mem_cons, List.not_mem_nil, or_false] at hy; subst hy; exact sumGo16 hb hc
        · unfold Disk.dataW; split <;> simp
      · cases hx
  · rename_i hk
    rw [okW_some hx]
    unfold Disk.plainW
    have hsz : s < d.sz := by unfold Disk.count at hs; rwa [if_neg hk] at hs
    refine ⟨fun y hy => ?_, fun y hy => ?_, ?_⟩
    · obtain ⟨i, hi, rfl⟩ := List.mem_map.1 hy
      simp only [List.mem_filter, List.mem_range, Bool.not_eq_true', decide_eq_false_iff_not] at hi
      exact nat1 _ _ _ hi.1 hi.2 hsz
    · obtain ⟨i, hi, rfl⟩ := List.mem_map.1 hy; exact hb
    · rw [List.length_map]
      exact Nat.le_trans (List.length_filter_le _ _) (by simp; omega)
theorem Okd.made {d : Disk} (h : Okd d) {x : List UW} (hx : ∀ y ∈ x, y.bytes.size = 16) : Okd (made d x) := by
  have K := keeps_made d x
  have S := made_state x d
  exact {
    kind := by rw [K.kind]; exact h.kind
    n0 := by rw [K.kind, K.n]; exact h.n0
    n1 := by rw [K.kind, K.n]; exact h.n1
    n2 := by rw [K.kind, K.n]; exact h.n2
    size := by rw [K.size]; exact h.size
    state := fun j hj => by rw [K.n] at hj; rw [(S j hj).1]; exact h.state j hj
    len := fun j hj hs => by rw [K.n] at hj; rw [(S j hj).1] at hs; rw [(S j hj).2, K.sz]; exact h.len j hj hs
    gone := fun j hj hs => by
      rw [K.n] at hj; rw [(S j hj).1] at hs
      exact List.eq_nil_of_length_eq_zero (by rw [(S j hj).2, h.gone j hj hs]; rfl)
    s16 := fun j s hj hs => by
      rw [K.n] at hj
      obtain ⟨k, hk, rfl⟩ := mem_nth hs
      rw [(S j hj).2] at hk
      rcases made_sec x d j k hj hk with q | ⟨y, hy, _, _, q⟩
      · have : nth ((C06.made d x).at j).secs k = d.sec j k := q
        rw [this]; exact h.s16 j _ hj (nth_mem hk)
      · have : nth ((C06.made d x).at j).secs k = y.bytes := q
        rw [this]; exact hx y hy }

/-! ### Errors -/
def wE (d : Disk) (w : SW) : Int := if inB w.sector 0 (cntI d - 1) = false then 3 else if ¬ (w.bytes.size : Int) = 16 then 18 else 0
def wGo (d : Disk) : List SW → Nat → Int × Int
  | [], _ => (0, 0)
  | w :: l, i => if wE d w = 0 then wGo d l (i + 1) else ((i : Int), wE d w)
def zD : AV := .agg [.int .i64 0, .int .i64 0, .nils]
def runR (len : Nat) : Disk → List UW → Nat → List SW → AV
  | d, Y, _, [] => .tup [.agg (encDisk d), .sl (Y.map encUW), .int .i64 (len : Int), .int .i64 0]
  | d, Y, i, w :: l => match d.writes w.sector.toNat w.bytes with
    | some x => runR len (made d x) (Y ++ x) (i + 1) l
    | none => .tup [zD, .nils, .int .i64 (i : Int), .int .i64 31]
/-- The error ahead of any write. -/
def preE (d : Disk) (l : List SW) : Int × Int := if ¬ (dE d).2 = 0 then (0, (dE d).2) else if (40 : Int) < (l.length : Int) then (0, 2) else wGo d l 0
theorem wGo_zero {d : Disk} : ∀ {l : List SW} {i : Nat}, (wGo d l i).2 = 0 → ∀ w ∈ l, wE d w = 0
  | [], _, _, w, hw => by cases hw
  | v :: l, i, h, w, hw => by
    unfold wGo at h
    split at h
    · rename_i h0
      rcases List.mem_cons.1 hw with rfl | hw
      · exact h0
      · exact wGo_zero h w hw
    · rename_i h0; exact absurd h h0
theorem wE_zero {d : Disk} (h : Okd d) {w : SW} (hw : wE d w = 0) : (0 ≤ w.sector ∧ w.sector.toNat < d.count) ∧ w.bytes.size = 16 := by
  have hc := h.cnt
  unfold wE at hw
  split at hw
  · cases hw
  split at hw
  · cases hw
  rename_i h1 h2
  have h1' : inB w.sector 0 (cntI d - 1) = true := by simpa using h1
  simp only [inB, decide_eq_true_eq, hc.1] at h1'
  have := Classical.not_not.1 h2
  omega
theorem w_step {d : Disk} {l : List SW} {i : Nat} {r : Int × Int} (hlt : i < l.length) (h : r = wGo d (l.drop i) i) (he : wE d (nth l i) = 0) : r = wGo d (l.drop (i + 1)) (i + 1) := by
  rw [h, drop_nth hlt, wGo, if_pos he]
theorem w_out {d : Disk} {l : List SW} {i : Nat} {r : Int × Int} {c : Int} (hlt : i < l.length) (h : r = wGo d (l.drop i) i) (he : wE d (nth l i) = c) (hc : c ≠ 0) : r = ((i : Int), c) := by
  rw [h, drop_nth hlt, wGo, if_neg (by rw [he]; exact hc), he]

set_option maxHeartbeats 4000000 in
theorem run_pre (d : Disk) (hf : FitD d) (l : List SW) (hl : l.length ≤ 1000) (hp : ¬ (preE d l).2 = 0) : Ans Try.prog 43 [.agg (encDisk d), .sl (l.map encSW)] (.tup [zD, .nils, .int .i64 (preE d l).1, .int .i64 (preE d l).2]) := by
  refine Classical.byCases (fun h0 : (dE d).2 = 0 => ?_) fun h0 => ?_
  case refine_2 =>
    have e : preE d l = (0, (dE d).2) := by rw [preE, if_pos h0]
    rw [e, zD]
    refine good_run [(17, [5, 6, 7, 13, 14, 15, 16, 57, 58, 59, 60, 61, 62, 63, 64, 65, 66, 67, 68, 69, 70, 71, 72, 73, 74, 75, 76, 77], []), (7, [5, 6, 7, 9, 10, 30, 31, 32, 33, 34, 35, 36, 37, 38, 39, 40, 41, 42, 43, 44, 45, 46, 47, 48, 49, 50, 51], [10, 10])] mixed Try.func43 rfl Try.ntmps43 (rs := [.cell 4 24, .tmp 5, .tmp 6, .tmp 7]) rfl (by decide +kernel) (by kernel_rfl) rfl ?_
    rw [startE_eq 82 _ _ _ rfl rfl]
    set_option maxRecDepth 100000 in simp (maxSteps := 10000000) only [go_sem, Nat.reduceAdd, Nat.reduceSub, Nat.reduceMul, Nat.reduceLT, Nat.reduceLeDiff, Nat.reduceEqDiff, Nat.reduceMod, Nat.reduceDiv, Int.reduceNeg, Int.reduceLE, Int.reduceLT, Int.reduceToNat, Int.reduceEq, Int.reduceNe, ↓reduceIte]
    refine call_of (diskErr_good d hf) ?_
    set_option maxRecDepth 100000 in simp (maxSteps := 10000000) only [go_sem, Nat.reduceAdd, Nat.reduceSub, Nat.reduceMul, Nat.reduceLT, Nat.reduceLeDiff, Nat.reduceEqDiff, Nat.reduceMod, Nat.reduceDiv, Int.reduceNeg, Int.reduceLE, Int.reduceLT, Int.reduceToNat, Int.reduceEq, Int.reduceNe, ↓reduceIte,  h0]
  have hde := diskErr_good d hf
  rw [h0] at hde
  refine Classical.byCases (fun h40 : (40 : Int) < (l.length : Int) => ?_) fun h40 => ?_
  · have e : preE d l = (0, 2) := by rw [preE, if_neg (by rw [h0]; exact fun q => q rfl), if_pos h40]
    rw [e, zD]
    refine good_run [(17, [5, 6, 7, 13, 14, 15, 16, 57, 58, 59, 60, 61, 62, 63, 64, 65, 66, 67, 68, 69, 70, 71, 72, 73, 74, 75, 76, 77], []), (7, [5, 6, 7, 9, 10, 30, 31, 32, 33, 34, 35, 36, 37, 38, 39, 40, 41, 42, 43, 44, 45, 46, 47, 48, 49, 50, 51], [10, 10])] mixed Try.func43 rfl Try.ntmps43 (rs := [.cell 4 24, .tmp 5, .tmp 6, .tmp 7]) rfl (by decide +kernel) (by kernel_rfl) rfl ?_
    rw [startE_eq 82 _ _ _ rfl rfl]
    set_option maxRecDepth 100000 in simp (maxSteps := 10000000) only [go_sem, Nat.reduceAdd, Nat.reduceSub, Nat.reduceMul, Nat.reduceLT, Nat.reduceLeDiff, Nat.reduceEqDiff, Nat.reduceMod, Nat.reduceDiv, Int.reduceNeg, Int.reduceLE, Int.reduceLT, Int.reduceToNat, Int.reduceEq, Int.reduceNe, ↓reduceIte]
    refine call_of (hde) ?_
    set_option maxRecDepth 100000 in simp (maxSteps := 10000000) only [go_sem, Nat.reduceAdd, Nat.reduceSub, Nat.reduceMul, Nat.reduceLT, Nat.reduceLeDiff, Nat.reduceEqDiff, Nat.reduceMod, Nat.reduceDiv, Int.reduceNeg, Int.reduceLE, Int.reduceLT, Int.reduceToNat, Int.reduceEq, Int.reduceNe, ↓reduceIte,  h40, decide_true]
  have e : preE d l = wGo d l 0 := by rw [preE, if_neg (by rw [h0]; exact fun q => q rfl), if_neg h40]
  have hO := okd_of h0
  have hcn := hO.cnt
  have hcg := count_good d (by have := hf.n; omega) (by have := hO.size; omega) (by have := hO.size; omega)
  have hw1 : IntKind.wrap .i64 (cntI d - 1) = cntI d - 1 := wrap_i64 (by omega) (by omega)
  rw [e, zD]
  generalize hr : wGo d l 0 = r at e ⊢
  rw [e] at hp
  refine good_run [(17, [5, 6, 7, 13, 14, 15, 16, 57, 58, 59, 60, 61, 62, 63, 64, 65, 66, 67, 68, 69, 70, 71, 72, 73, 74, 75, 76, 77], []), (7, [5, 6, 7, 9, 10, 30, 31, 32, 33, 34, 35, 36, 37, 38, 39, 40, 41, 42, 43, 44, 45, 46, 47, 48, 49, 50, 51], [10, 10])] mixed Try.func43 rfl Try.ntmps43 (rs := [.cell 4 24, .tmp 5, .tmp 6, .tmp 7]) rfl (by decide +kernel) (by kernel_rfl) rfl ?_
  rw [startE_eq 82 _ _ _ rfl rfl]
  set_option maxRecDepth 100000 in simp (maxSteps := 10000000) only [go_sem, Nat.reduceAdd, Nat.reduceSub, Nat.reduceMul, Nat.reduceLT, Nat.reduceLeDiff, Nat.reduceEqDiff, Nat.reduceMod, Nat.reduceDiv, Int.reduceNeg, Int.reduceLE, Int.reduceLT, Int.reduceToNat, Int.reduceEq, Int.reduceNe, ↓reduceIte]
  refine call_of (hde) ?_
  set_option maxRecDepth 100000 in simp (maxSteps := 10000000) only [go_sem, Nat.reduceAdd, Nat.reduceSub, Nat.reduceMul, Nat.reduceLT, Nat.reduceLeDiff, Nat.reduceEqDiff, Nat.reduceMod, Nat.reduceDiv, Int.reduceNeg, Int.reduceLE, Int.reduceLT, Int.reduceToNat, Int.reduceEq, Int.reduceNe, ↓reduceIte,  h40, decide_false]
  refine loop_by ([5, 6, 7, 9, 10, 30, 31, 32, 33, 34, 35, 36, 37, 38, 39, 40, 41, 42, 43, 44, 45, 46, 47, 48, 49, 50, 51], [10, 10]) (fun i : Nat => [(.s 29, .int .i64 (i : Int)), (.o 10, deadV i)]) (fun i => l.length - i) (fun i => i ≤ l.length ∧ r = wGo d (l.drop i) i) 0 rfl ⟨Nat.zero_le _, hr.symm⟩ rfl ?_
  rintro c' st' hst i ⟨hi, hg⟩ ih
  set_option maxRecDepth 100000 in simp (maxSteps := 10000000) only [go_sem, Nat.reduceAdd, Nat.reduceSub, Nat.reduceMul, Nat.reduceLT, Nat.reduceLeDiff, Nat.reduceEqDiff, Nat.reduceMod, Nat.reduceDiv, Int.reduceNeg, Int.reduceLE, Int.reduceLT, Int.reduceToNat, Int.reduceEq, Int.reduceNe, ↓reduceIte]
  refine ifI (fun hlt => ?_) fun hlt => ?_
  case refine_2 =>
    exfalso
    rw [hg, List.drop_eq_nil_of_le (by omega)] at hp
    exact hp rfl
  set_option maxRecDepth 100000 in simp (maxSteps := 10000000) only [go_sem, Nat.reduceAdd, Nat.reduceSub, Nat.reduceMul, Nat.reduceLT, Nat.reduceLeDiff, Nat.reduceEqDiff, Nat.reduceMod, Nat.reduceDiv, Int.reduceNeg, Int.reduceLE, Int.reduceLT, Int.reduceToNat, Int.reduceEq, Int.reduceNe, ↓reduceIte,  hlt]
  refine callD_of (hcg) ?_
  set_option maxRecDepth 100000 in simp (maxSteps := 10000000) only [go_sem, Nat.reduceAdd, Nat.reduceSub, Nat.reduceMul, Nat.reduceLT, Nat.reduceLeDiff, Nat.reduceEqDiff, Nat.reduceMod, Nat.reduceDiv, Int.reduceNeg, Int.reduceLE, Int.reduceLT, Int.reduceToNat, Int.reduceEq, Int.reduceNe, ↓reduceIte,  hw1]
  refine callD_of (within_good _ _ _) ?_
  set_option maxRecDepth 100000 in simp (maxSteps := 10000000) only [go_sem, Nat.reduceAdd, Nat.reduceSub, Nat.reduceMul, Nat.reduceLT, Nat.reduceLeDiff, Nat.reduceEqDiff, Nat.reduceMod, Nat.reduceDiv, Int.reduceNeg, Int.reduceLE, Int.reduceLT, Int.reduceToNat, Int.reduceEq, Int.reduceNe, ↓reduceIte]
  refine ⟨by decide +kernel, ?_⟩
  refine Classical.byCases (fun hin : inB (nth l i).sector 0 (cntI d - 1) = false => ?_) fun hin => ?_
  · set_option maxRecDepth 100000 in simp (maxSteps := 10000000) only [go_sem, Nat.reduceAdd, Nat.reduceSub, Nat.reduceMul, Nat.reduceLT, Nat.reduceLeDiff, Nat.reduceEqDiff, Nat.reduceMod, Nat.reduceDiv, Int.reduceNeg, Int.reduceLE, Int.reduceLT, Int.reduceToNat, Int.reduceEq, Int.reduceNe, ↓reduceIte,  hin, Bool.not_false]
    rw [w_out (c := 3) hlt hg (by rw [wE, if_pos hin]) (by decide)]; exact ⟨rfl, rfl⟩
  have hin' : inB (nth l i).sector 0 (cntI d - 1) = true := by simpa using hin
  set_option maxRecDepth 100000 in simp (maxSteps := 10000000) only [go_sem, Nat.reduceAdd, Nat.reduceSub, Nat.reduceMul, Nat.reduceLT, Nat.reduceLeDiff, Nat.reduceEqDiff, Nat.reduceMod, Nat.reduceDiv, Int.reduceNeg, Int.reduceLE, Int.reduceLT, Int.reduceToNat, Int.reduceEq, Int.reduceNe, ↓reduceIte,  hin', Bool.not_true]
  refine ifI (fun h16 => ?_) fun h16 => ?_
  · set_option maxRecDepth 100000 in simp (maxSteps := 10000000) only [go_sem, Nat.reduceAdd, Nat.reduceSub, Nat.reduceMul, Nat.reduceLT, Nat.reduceLeDiff, Nat.reduceEqDiff, Nat.reduceMod, Nat.reduceDiv, Int.reduceNeg, Int.reduceLE, Int.reduceLT, Int.reduceToNat, Int.reduceEq, Int.reduceNe, ↓reduceIte,  h16]
    rw [w_out (c := 18) hlt hg (by rw [wE, if_neg hin, if_pos h16]) (by decide)]; exact ⟨rfl, rfl⟩
  · set_option maxRecDepth 100000 in simp (maxSteps := 10000000) only [go_sem, Nat.reduceAdd, Nat.reduceSub, Nat.reduceMul, Nat.reduceLT, Nat.reduceLeDiff, Nat.reduceEqDiff, Nat.reduceMod, Nat.reduceDiv, Int.reduceNeg, Int.reduceLE, Int.reduceLT, Int.reduceToNat, Int.reduceEq, Int.reduceNe, ↓reduceIte,  h16]
    refine ih (i + 1) _ ⟨by omega, w_step hlt hg (by rw [wE, if_neg hin, if_neg h16])⟩ (by omega) ?_
    set_option maxRecDepth 100000 in simp (maxSteps := 10000000) only [go_sem, Nat.reduceAdd, Nat.reduceSub, Nat.reduceMul, Nat.reduceLT, Nat.reduceLeDiff, Nat.reduceEqDiff, Nat.reduceMod, Nat.reduceDiv, Int.reduceNeg, Int.reduceLE, Int.reduceLT, Int.reduceToNat, Int.reduceEq, Int.reduceNe, ↓reduceIte,  wrap_succ (show i < 9223372036854775807 by omega)]

end Go.Proofs.Ytdfdagfgkijpcaa.C06
