/- Chapter 12: the fields of operations, by the program. -/
import Derived.Test.YtbhgehhmjpipiaaGreatDoorT3
set_option linter.unusedSimpArgs false
set_option linter.unusedVariables false
namespace Go.Proofs.YtbhgehhmjpipiaaGreatDoor.C12
open Go Go.Proofs Go.Proofs.YtbhgehhmjpipiaaGreatDoor.Ab Go.Proofs.YtbhgehhmjpipiaaGreatDoor.C10
set_option maxRecDepth 100000
attribute [local congr] ite_ctx
theorem pquad_good (n : Int) : Ans Tryz.prog 114 [.int .i64 n] (.bool (isQ n)) := by
 have h := pin_good n 0 59
 have e : inB n 0 59 = isQ n := rfl
 rw [e] at h
 generalize isQ n = b at h
 refine good_run [] mixed Tryz.func114 rfl Tryz.ntmps114 (rs := [.tmp 2]) rfl (by decide +kernel) (by kernel_rfl) rfl ?_
 rw [startE_eq 5 _ _ _ rfl rfl]
 simp only [go_sem, seval]
 refine call_of (h) ?_
 simp only [go_sem, seval]
theorem uses_t : List.take 6 usesL = [.bool false, .bool true, .bool false, .bool false, .bool true, .bool false] ∧ List.take 6 (List.drop 6 usesL) = [.bool false, .bool false, .bool false, .bool true, .bool false, .bool false] ∧ List.take 6 (List.drop 12 usesL) = [.bool true, .bool true, .bool false, .bool false, .bool false, .bool false] ∧ List.take 6 (List.drop 18 usesL) = [.bool true, .bool true, .bool false, .bool false, .bool false, .bool false] ∧ List.take 6 (List.drop 24 usesL) = [.bool true, .bool false, .bool false, .bool false, .bool false, .bool true] ∧ List.take 6 (List.drop 30 usesL) = [.bool true, .bool true, .bool false, .bool false, .bool false, .bool false] ∧ List.take 6 (List.drop 36 usesL) = [.bool true, .bool true, .bool true, .bool false, .bool false, .bool false] ∧ List.take 6 (List.drop 42 usesL) = [.bool true, .bool true, .bool true, .bool false, .bool false, .bool false] ∧ List.take 6 (List.drop 48 usesL) = [.bool false, .bool false, .bool true, .bool true, .bool false, .bool false] := ⟨rfl, rfl, rfl, rfl, rfl, rfl, rfl, rfl, rfl⟩
theorem uses_l : (6 ≤ usesL.length) = True ∧ (6 ≤ (List.drop 6 usesL).length) = True ∧ (6 ≤ (List.drop 12 usesL).length) = True ∧ (6 ≤ (List.drop 18 usesL).length) = True ∧ (6 ≤ (List.drop 24 usesL).length) = True ∧ (6 ≤ (List.drop 30 usesL).length) = True ∧ (6 ≤ (List.drop 36 usesL).length) = True ∧ (6 ≤ (List.drop 42 usesL).length) = True ∧ (6 ≤ (List.drop 48 usesL).length) = True := ⟨eq_true (by decide), eq_true (by decide), eq_true (by decide), eq_true (by decide), eq_true (by decide), eq_true (by decide), eq_true (by decide), eq_true (by decide), eq_true (by decide)⟩
set_option maxHeartbeats 16000000 in
theorem range_0 (c : Case) (hO : c.sec.objects.length ≤ 1000) (job src dst pointer object auth : Int) (data : ByteArray) (hd : data.size ≤ 1000000) : Ans Tryz.prog 70 [.agg (encCase c), .agg (encCOp ⟨0, job, src, dst, pointer, object, auth, data⟩)] (.int .i64 (if badF (cc c) ⟨0, job, src, dst, pointer, object, auth, data⟩ = true then 3 else 0)) := by
 rw [show badF (cc c) ⟨0, job, src, dst, pointer, object, auth, data⟩ = (!(isQ dst) || !(inB object 0 ((c.sec.objects.length : Int) - 1))) from by
  have e : decide (0 ≤ object ∧ object < ((cc c).O : Int)) = inB object 0 ((c.sec.objects.length : Int) - 1) := by
   unfold inB; exact decide_eq_decide.2 (by have : ((cc c).O : Int) = (c.sec.objects.length : Int) := rfl; omega)
  simp only [badF, e]
  simp]
 have w2 : IntKind.wrap .i64 ((c.sec.objects.length : Int) - 1) = (c.sec.objects.length : Int) - 1 := wrap_i64 (by omega) (by omega)
 have ht := pquad_good dst
 have ho := pin_good object 0 ((c.sec.objects.length : Int) - 1)
 generalize isQ dst = bt at ht ⊢
 generalize inB object 0 ((c.sec.objects.length : Int) - 1) = bo at ho ⊢
 cases bt <;> cases bo
 all_goals
  simp only [Bool.not_true, Bool.not_false, Bool.true_or, Bool.or_true, Bool.or_false, Bool.false_or, if_true, if_false, Bool.false_eq_true]
  refine good_run [] mixed Tryz.func70 rfl Tryz.ntmps70 (rs := [.tmp 4]) rfl (by decide +kernel) (by kernel_rfl) rfl ?_
  rw [startE_eq 90 _ _ _ rfl rfl]
  simp only [go_sem, seval, Bool.not_true, Bool.not_false, uses_t, uses_l, w2]
  refine call_of ht ?_
  simp only [go_sem, seval, Bool.not_true, Bool.not_false, uses_t, uses_l, w2]
  try (refine call_of ho ?_; simp only [go_sem, seval, Bool.not_true, Bool.not_false, uses_t, uses_l, w2])
  first | refine call_of (condT 3) ?_ | refine call_of (condF 3) ?_
  simp only [go_sem, seval]
set_option maxHeartbeats 16000000 in
theorem range_1 (c : Case) (hO : c.sec.objects.length ≤ 1000) (job src dst pointer object auth : Int) (data : ByteArray) (hd : data.size ≤ 1000000) : Ans Tryz.prog 70 [.agg (encCase c), .agg (encCOp ⟨1, job, src, dst, pointer, object, auth, data⟩)] (.int .i64 (if badF (cc c) ⟨1, job, src, dst, pointer, object, auth, data⟩ = true then 3 else 0)) := by
 rw [show badF (cc c) ⟨1, job, src, dst, pointer, object, auth, data⟩ = (!(inB dst 0 960) || decide ((data.size : Int) > 960 - dst)) from by rw [Bool.eq_iff_iff]; simp [badF, isQ, inB]; omega]
 have hw := pin_good dst 0 960
 have hr : inB dst 0 960 = true → IntKind.wrap .i64 (960 - dst) = 960 - dst := fun h => by have := of_decide_eq_true h; exact wrap_i64 (by omega) (by omega)
 generalize inB dst 0 960 = bw at hw hr ⊢
 refine Classical.byCases (fun hz : (data.size : Int) > 960 - dst => ?_) fun hz => ?_ <;> cases bw
 all_goals
  simp only [Bool.not_true, Bool.not_false, Bool.true_or, Bool.or_true, Bool.or_false, Bool.false_or, if_true, if_false, Bool.false_eq_true, hz, decide_true, decide_false]
  try replace hr := hr rfl
  refine good_run [] mixed Tryz.func70 rfl Tryz.ntmps70 (rs := [.tmp 4]) rfl (by decide +kernel) (by kernel_rfl) rfl ?_
  rw [startE_eq 90 _ _ _ rfl rfl]
  simp only [go_sem, seval, Bool.not_true, Bool.not_false, uses_t, uses_l, hz, decide_true, decide_false, not_false_eq_true, hr]
  refine call_of hw ?_
  simp only [go_sem, seval, Bool.not_true, Bool.not_false, uses_t, uses_l, hz, decide_true, decide_false, not_false_eq_true, hr]
  first | refine call_of (condT 3) ?_ | refine call_of (condF 3) ?_
  simp only [go_sem, seval]
set_option maxHeartbeats 16000000 in
theorem range_2 (c : Case) (hO : c.sec.objects.length ≤ 1000) (job src dst pointer object auth : Int) (data : ByteArray) (hd : data.size ≤ 1000000) (k : Int) (hk : k = 2 ∨ k = 3 ∨ k = 5) : Ans Tryz.prog 70 [.agg (encCase c), .agg (encCOp ⟨k, job, src, dst, pointer, object, auth, data⟩)] (.int .i64 (if badF (cc c) ⟨k, job, src, dst, pointer, object, auth, data⟩ = true then 3 else 0)) := by
 rw [show badF (cc c) ⟨k, job, src, dst, pointer, object, auth, data⟩ = (!(isQ src) || !(isQ dst)) from by rcases hk with rfl | rfl | rfl <;> simp [badF]]
 have hs := pquad_good src
 have ht := pquad_good dst
 generalize isQ src = bs at hs ⊢
 generalize isQ dst = bt at ht ⊢
 rcases hk with rfl | rfl | rfl <;> cases bs <;> cases bt
 all_goals
  simp only [Bool.not_true, Bool.not_false, Bool.true_or, Bool.or_true, Bool.or_false, Bool.false_or, if_true, if_false, Bool.false_eq_true]
  refine good_run [] mixed Tryz.func70 rfl Tryz.ntmps70 (rs := [.tmp 4]) rfl (by decide +kernel) (by kernel_rfl) rfl ?_
  rw [startE_eq 90 _ _ _ rfl rfl]
  simp only [go_sem, seval, Bool.not_true, Bool.not_false, uses_t, uses_l]
  refine call_of hs ?_
  simp only [go_sem, seval, Bool.not_true, Bool.not_false, uses_t, uses_l]
  try (refine call_of ht ?_; simp only [go_sem, seval, Bool.not_true, Bool.not_false, uses_t, uses_l])
  first | refine call_of (condT 3) ?_ | refine call_of (condF 3) ?_
  simp only [go_sem, seval]
set_option maxHeartbeats 16000000 in
theorem range_4 (c : Case) (hO : c.sec.objects.length ≤ 1000) (job src dst pointer object auth : Int) (data : ByteArray) (hd : data.size ≤ 1000000) : Ans Tryz.prog 70 [.agg (encCase c), .agg (encCOp ⟨4, job, src, dst, pointer, object, auth, data⟩)] (.int .i64 (if badF (cc c) ⟨4, job, src, dst, pointer, object, auth, data⟩ = true then 3 else 0)) := by
 rw [show badF (cc c) ⟨4, job, src, dst, pointer, object, auth, data⟩ = (!(isQ src) || !(inB auth 0 1023)) from by rw [Bool.eq_iff_iff]; simp [badF, isQ, inB, cc, decide_eq_false_iff_not]; try omega]
 have hs := pquad_good src
 have ha := pin_good auth 0 1023
 generalize isQ src = bs at hs ⊢
 generalize inB auth 0 1023 = ba at ha ⊢
 cases bs <;> cases ba
 all_goals
  simp only [Bool.not_true, Bool.not_false, Bool.true_or, Bool.or_true, Bool.or_false, Bool.false_or, if_true, if_false, Bool.false_eq_true]
  refine good_run [] mixed Tryz.func70 rfl Tryz.ntmps70 (rs := [.tmp 4]) rfl (by decide +kernel) (by kernel_rfl) rfl ?_
  rw [startE_eq 90 _ _ _ rfl rfl]
  simp only [go_sem, seval, Bool.not_true, Bool.not_false, uses_t, uses_l]
  refine call_of hs ?_
  simp only [go_sem, seval, Bool.not_true, Bool.not_false, uses_t, uses_l]
  try (refine call_of ha ?_; simp only [go_sem, seval, Bool.not_true, Bool.not_false, uses_t, uses_l])
  first | refine call_of (condT 3) ?_ | refine call_of (condF 3) ?_
  simp only [go_sem, seval]
set_option maxHeartbeats 16000000 in
theorem range_6 (c : Case) (hO : c.sec.objects.length ≤ 1000) (job src dst pointer object auth : Int) (data : ByteArray) (hd : data.size ≤ 1000000) (k : Int) (hk : k = 6 ∨ k = 7) : Ans Tryz.prog 70 [.agg (encCase c), .agg (encCOp ⟨k, job, src, dst, pointer, object, auth, data⟩)] (.int .i64 (if badF (cc c) ⟨k, job, src, dst, pointer, object, auth, data⟩ = true then 3 else 0)) := by
 rw [show badF (cc c) ⟨k, job, src, dst, pointer, object, auth, data⟩ = (!(isQ src) || !(isQ dst) || !(isQ pointer)) from by rcases hk with rfl | rfl <;> simp [badF]]
 have hs := pquad_good src
 have ht := pquad_good dst
 have hp := pquad_good pointer
 generalize isQ src = bs at hs ⊢
 generalize isQ dst = bt at ht ⊢
 generalize isQ pointer = bp at hp ⊢
 rcases hk with rfl | rfl <;> cases bs <;> cases bt <;> cases bp
 all_goals
  simp only [Bool.not_true, Bool.not_false, Bool.true_or, Bool.or_true, Bool.or_false, Bool.false_or, if_true, if_false, Bool.false_eq_true]
  refine good_run [] mixed Tryz.func70 rfl Tryz.ntmps70 (rs := [.tmp 4]) rfl (by decide +kernel) (by kernel_rfl) rfl ?_
  rw [startE_eq 90 _ _ _ rfl rfl]
  simp only [go_sem, seval, Bool.not_true, Bool.not_false, uses_t, uses_l]
  refine call_of hs ?_
  simp only [go_sem, seval, Bool.not_true, Bool.not_false, uses_t, uses_l]
  try (refine call_of ht ?_; simp only [go_sem, seval, Bool.not_true, Bool.not_false, uses_t, uses_l])
  try (refine call_of hp ?_; simp only [go_sem, seval, Bool.not_true, Bool.not_false, uses_t, uses_l])
  first | refine call_of (condT 3) ?_ | refine call_of (condF 3) ?_
  simp only [go_sem, seval]
set_option maxHeartbeats 16000000 in
theorem range_8 (c : Case) (hO : c.sec.objects.length ≤ 1000) (job src dst pointer object auth : Int) (data : ByteArray) (hd : data.size ≤ 1000000) : Ans Tryz.prog 70 [.agg (encCase c), .agg (encCOp ⟨8, job, src, dst, pointer, object, auth, data⟩)] (.int .i64 (if badF (cc c) ⟨8, job, src, dst, pointer, object, auth, data⟩ = true then 3 else 0)) := by
 rw [show badF (cc c) ⟨8, job, src, dst, pointer, object, auth, data⟩ = (!(isQ pointer) || !(inB dst 0 960) || decide ((data.size : Int) > 960 - dst)) from by rw [Bool.eq_iff_iff]; simp [badF, isQ, inB]; omega]
 have hp := pquad_good pointer
 have hw := pin_good dst 0 960
 have hr : inB dst 0 960 = true → IntKind.wrap .i64 (960 - dst) = 960 - dst := fun h => by have := of_decide_eq_true h; exact wrap_i64 (by omega) (by omega)
 generalize isQ pointer = bp at hp ⊢
 generalize inB dst 0 960 = bw at hw hr ⊢
 refine Classical.byCases (fun hz : (data.size : Int) > 960 - dst => ?_) fun hz => ?_ <;> cases bp <;> cases bw
 all_goals
  simp only [Bool.not_true, Bool.not_false, Bool.true_or, Bool.or_true, Bool.or_false, Bool.false_or, if_true, if_false, Bool.false_eq_true, hz, decide_true, decide_false]
  try replace hr := hr rfl
  refine good_run [] mixed Tryz.func70 rfl Tryz.ntmps70 (rs := [.tmp 4]) rfl (by decide +kernel) (by kernel_rfl) rfl ?_
  rw [startE_eq 90 _ _ _ rfl rfl]
  simp only [go_sem, seval, Bool.not_true, Bool.not_false, uses_t, uses_l, hz, decide_true, decide_false, not_false_eq_true, hr]
  refine call_of hp ?_
  simp only [go_sem, seval, Bool.not_true, Bool.not_false, uses_t, uses_l, hz, decide_true, decide_false, not_false_eq_true, hr]
  try (refine call_of hw ?_; simp only [go_sem, seval, Bool.not_true, Bool.not_false, uses_t, uses_l, hz, decide_true, decide_false, not_false_eq_true, hr])
  first | refine call_of (condT 3) ?_ | refine call_of (condF 3) ?_
  simp only [go_sem, seval]
theorem range_good (c : Case) (hO : c.sec.objects.length ≤ 1000) (o : COp) (hk : 0 ≤ o.kind ∧ o.kind ≤ 8) (hd : o.data.size ≤ 1000000) : Ans Tryz.prog 70 [.agg (encCase c), .agg (encCOp o)] (.int .i64 (if badF (cc c) o = true then 3 else 0)) := by
 obtain ⟨kind, job, src, dst, pointer, object, auth, data⟩ := o
 simp only at hk hd
 rcases (by omega : kind = 0 ∨ kind = 1 ∨ (kind = 2 ∨ kind = 3 ∨ kind = 5) ∨ kind = 4 ∨ (kind = 6 ∨ kind = 7) ∨ kind = 8) with rfl | rfl | h | rfl | h | rfl
 · exact range_0 c hO job src dst pointer object auth data hd
 · exact range_1 c hO job src dst pointer object auth data hd
 · exact range_2 c hO job src dst pointer object auth data hd _ h
 · exact range_4 c hO job src dst pointer object auth data hd
 · exact range_6 c hO job src dst pointer object auth data hd _ h
 · exact range_8 c hO job src dst pointer object auth data hd
end Go.Proofs.YtbhgehhmjpipiaaGreatDoor.C12
