/- Chapter 12: new storages and the first state, by the program and by the reference. -/
import Derived.Test.YtbhgehhmjpipiaaGreatE14
import Derived.Test.YtbhgehhmjpipiaaGreatS0
namespace Go.Proofs.YtbhgehhmjpipiaaGreat.C12
open Go Go.Proofs Go.Proofs.YtbhgehhmjpipiaaGreat.Ab Go.Proofs.YtbhgehhmjpipiaaGreat.C10
set_option maxRecDepth 100000
set_option linter.unusedSimpArgs false
set_option linter.unusedVariables false
attribute [local congr] ite_ctx
def encByte (b : UInt8) : List AV := [.int .u8 (b.toNat : Int)]
@[go_sem] theorem rl_encByte (l : List UInt8) : rowsLen 1 (l.map encByte) = true := rowsLen_map fun _ => rfl
@[go_sem] theorem rf_encByte (l : List UInt8) : rowsF (l.map encByte) = true := rowsF_map fun _ => rfl
@[go_sem] theorem rp_encByte (l : List UInt8) : rowsP (l.map encByte) = true := rowsP_map fun _ => rfl
@[go_sem] theorem strOf_map (l : List UInt8) : Ab.strOf (l.map encByte) = some l := by
  induction l with
  | nil => rfl
  | cons b l ih =>
    simp only [List.map_cons, encByte, Ab.strOf]
    rw [ih]
    simp
theorem repeat_zero (n : Nat) : Lib.repeatL (⟨#[0]⟩ : ByteArray).data.toList n = List.replicate n 0 := by
  induction n with
  | zero => rfl
  | succ n ih => rw [List.replicate_succ, ← ih]; rfl
theorem Repeat0_good (n : Nat) (h : n ≤ 1000000) : Ans Tryz.prog 177 [.str ⟨#[0]⟩, .int .i64 (n : Int)] (.str (ofL (List.replicate n 0))) := by
  have := StrRepeat_good ⟨#[0]⟩ n h (by decide)
  rw [repeat_zero] at this
  exact this
theorem RepeatB_good (n : Nat) (hn : n ≤ 1000000) : Ans Tryz.prog 115 [.int .u8 0, .int .i64 (n : Int)] (.str (ofL (List.replicate n 0))) := by
  refine good_run [(3, [7, 8, 9, 10, 11, 12, 13, 14, 15], [14, 1501005015])] mixed Tryz.func115 rfl Tryz.ntmps115 (rs := [.tmp 4]) rfl (by decide +kernel) (by kernel_rfl) rfl ?_
  rw [startE_eq 18 _ _ _ rfl rfl]
  simp only [go_sem, seval]
  refine loop_by ([7, 8, 9, 10, 11, 12, 13, 14, 15], [14, 1501005015]) (fun i : Nat => [(.s 6, .int .i64 (i : Int)), (.o 14, deadV i), (.o 15, .obj (i + 1) 5 1 false true ((List.replicate i (0 : UInt8)).map encByte)), (.s 5, .ref 15 (i + 1))]) (fun i => n - i) (fun i => i ≤ n) 0 rfl (Nat.zero_le _) ?_ ?_
  · simp only [go_sem, seval]
  rintro c' st' hst i hi ih
  simp only [go_sem, seval]
  refine ifI (fun hlt => ?_) fun hlt => ?_
  · simp only [go_sem, seval, hlt, List.length_replicate, show (i + 1) * 1 ≤ 140737488355328 by omega, show i + 1 ≤ maxLen by unfold maxLen; omega]
    have hr : encByte 0 :: List.map encByte (List.replicate i 0) = List.map encByte (List.replicate i 0) ++ [[.int .u8 0]] := by
      rw [show encByte 0 :: List.map encByte (List.replicate i 0) = List.map encByte (List.replicate (i + 1) 0) from rfl, List.replicate_succ', List.map_append]; rfl
    refine ih (i + 1) _ (by omega) (by omega) ?_
    simp only [go_sem, seval, wrap_succ (show i < 9223372036854775807 by omega), hr]
  have hni : i = n := by omega
  subst hst hni
  simp only [go_sem, seval, hlt]
  rfl
theorem within176_good (n lo hi : Int) : Ans Tryz.prog 176 [.int .i64 n, .int .i64 lo, .int .i64 hi] (.bool (inB n lo hi)) := by
  refine good_run [] mixed Tryz.func176 rfl Tryz.ntmps176 (rs := [.tmp 6]) rfl (by decide +kernel) (by kernel_rfl) rfl ?_
  rw [startE_eq 15 _ _ _ rfl rfl]
  simp (contextual := true) only [go_sem, ifP_eq, seval]
  split <;> simp_all [inB] <;> omega
theorem bools_zero (n : Nat) : List.replicate n [AV.bool false] = (List.replicate n false).map encB := by rw [List.map_replicate]; rfl
theorem NewStorage_good (n : Nat) (h : n ≤ 64) : Ans Tryz.prog 150 [.int .i64 (n : Int)] (.tup [.agg (encStg (zStg n)), .int .i64 0]) := by
  have hw := within176_good (n : Int) 0 64
  rw [show inB (n : Int) 0 64 = true by unfold inB; exact decide_eq_true (by omega)] at hw
  have hr := Repeat0_good (n * 16) (by omega)
  have hm : IntKind.wrap .i64 ((n : Int) * 16) = ((n * 16 : Nat) : Int) := by rw [wrap_i64 (by omega) (by omega)]; omega
  have hz : encStg (zStg n) = [.str (ofL (List.replicate (n * 16) 0)), .sl (List.replicate n [AV.bool false])] := by unfold encStg zStg; rw [bools_zero, Nat.mul_comm]
  have b0 : (0 : Int) ≤ (n : Int) := by omega
  have b1 : (n : Int) ≤ 16777216 := by omega
  have b2 : n * 1 ≤ 140737488355328 := by omega
  rw [hz]
  refine good_run [] mixed Tryz.func150 rfl Tryz.ntmps150 (rs := [.cell 2 99, .tmp 3]) rfl (by decide +kernel) (by kernel_rfl) rfl ?_
  rw [startE_eq 14 _ _ _ rfl rfl]
  simp only [go_sem, seval]
  refine call_of (hw) ?_
  simp only [go_sem, seval, Bool.not_true, hm]
  refine callD_of (hr) ?_
  simp only [go_sem, seval, b0, b1, b2, Int.toNat_natCast]
  decide +kernel
theorem storage_good (n : Nat) (h : n ≤ 64) : Ans Tryz.prog 113 [.int .i64 (n : Int)] (.agg (encStg (zStg n))) := by
  have hn := NewStorage_good n h
  refine good_run [] mixed Tryz.func113 rfl Tryz.ntmps113 (rs := [.cell 2 99]) rfl (by decide +kernel) (by kernel_rfl) rfl ?_
  rw [startE_eq 11 _ _ _ rfl rfl]
  simp only [go_sem, seval]
  refine call_of (hn) ?_
  simp only [go_sem, seval]
theorem rNew_good (n : Nat) (h : n ≤ 64) : Ans Tryz.prog 73 [.int .i64 (n : Int)] (.agg (encStg (zStg n))) := by
  have hr := RepeatB_good (n * 16) (by omega)
  have hm : IntKind.wrap .i64 ((n : Int) * 16) = ((n * 16 : Nat) : Int) := by rw [wrap_i64 (by omega) (by omega)]; omega
  have hz : encStg (zStg n) = [.str (ofL (List.replicate (n * 16) 0)), .sl (List.replicate n [AV.bool false])] := by unfold encStg zStg; rw [bools_zero, Nat.mul_comm]
  have b0 : (0 : Int) ≤ (n : Int) := by omega
  have b1 : (n : Int) ≤ 16777216 := by omega
  have b2 : n * 1 ≤ 140737488355328 := by omega
  rw [hz]
  refine good_run [] mixed Tryz.func73 rfl Tryz.ntmps73 (rs := [.cell 2 99]) rfl (by decide +kernel) (by kernel_rfl) rfl ?_
  rw [startE_eq 9 _ _ _ rfl rfl]
  simp only [go_sem, seval, hm]
  refine callD_of (hr) ?_
  simp only [go_sem, seval, b0, b1, b2, Int.toNat_natCast]
  decide +kernel
theorem quadsOf_good (c : Case) (k : Nat) (h : c.sec.objects.length ≤ 1000000) : Ans Tryz.prog 59 [.agg (encCase c), .int .i64 (k : Int)] (.int .i64 ((quadsC (cc c) k : Nat) : Int)) := by
  have hs := isSpace_good c (k : Int) h
  have hd : quadsC (cc c) k = if spB c (k : Int) = true then 60 else 0 := rfl
  rw [hd]
  cases hb : spB c (k : Int) with
  | true =>
    rw [hb] at hs
    refine good_run [] mixed Tryz.func59 rfl Tryz.ntmps59 (rs := [.tmp 4]) rfl (by decide +kernel) (by kernel_rfl) rfl ?_
    rw [startE_eq 8 _ _ _ rfl rfl]
    simp only [go_sem, seval]
    refine call_of (hs) ?_
    simp only [go_sem, seval]
  | false =>
    rw [hb] at hs
    refine good_run [] mixed Tryz.func59 rfl Tryz.ntmps59 (rs := [.tmp 4]) rfl (by decide +kernel) (by kernel_rfl) rfl ?_
    rw [startE_eq 8 _ _ _ rfl rfl]
    simp only [go_sem, seval]
    refine call_of (hs) ?_
    simp only [go_sem, seval]
theorem Count_good (b : Bool) : Ans Tryz.prog 61 [.bool b] (.int .i64 (if b = true then 1 else 0)) := by
  cases b with
  | false =>
    refine good_run [] mixed Tryz.func61 rfl Tryz.ntmps61 (rs := [.tmp 2]) rfl (by decide +kernel) (by kernel_rfl) rfl ?_
    rw [startE_eq 4 _ _ _ rfl rfl]
    simp only [go_sem, seval]
  | true =>
    refine good_run [] mixed Tryz.func61 rfl Tryz.ntmps61 (rs := [.tmp 2]) rfl (by decide +kernel) (by kernel_rfl) rfl ?_
    rw [startE_eq 4 _ _ _ rfl rfl]
    simp only [go_sem, seval]
/-! ### The first state -/
theorem quads_le (C : CC) (k : Nat) : quadsC C k ≤ 60 := by unfold quadsC; split <;> omega
theorem jobs_snoc (z : Stg) (i : Nat) : [AV.str z.bytes, .sl (z.tags.map encB)] :: List.map encStg (List.replicate i z) = List.map encStg (List.replicate i z) ++ [[.str z.bytes, .sl (z.tags.map encB)]] := by
  rw [show [AV.str z.bytes, .sl (z.tags.map encB)] :: List.map encStg (List.replicate i z) = List.map encStg (List.replicate (i + 1) z) from rfl, List.replicate_succ', List.map_append]; rfl
set_option maxHeartbeats 4000000 in
theorem start_good (c : Case) (h : Right c) : Ans Tryz.prog 71 [.agg (encCase c)] (.agg (encSt (startS (cc c)))) := by
  have hJ := h.J
  have hO := h.O
  have hz := storage_good 60 (by decide)
  have hq := fun k : Nat => quadsOf_good c k (by omega)
  have he : startS (cc c) = ⟨List.replicate c.users.length (zStg 60), (List.range c.sec.objects.length).map fun k => zStg (quadsC (cc c) k)⟩ := rfl
  rw [he]
  obtain ⟨f, hf⟩ : ∃ f : Nat → Stg, (fun k => zStg (quadsC (cc c) k)) = f := ⟨_, rfl⟩
  have hs : ∀ k : Nat, Ans Tryz.prog 113 [.int .i64 ((quadsC (cc c) k : Nat) : Int)] (.agg (encStg (f k))) := fun k => by
    rw [← hf]; exact storage_good (quadsC (cc c) k) (by have := quads_le (cc c) k; omega)
  rw [hf]
  clear hf he
  generalize zStg 60 = z at hz
  refine good_run [(7, [4, 22, 23, 24, 25, 26, 27, 28, 29, 30, 31, 32, 33], [30, 201302099031]), (3, [9, 10, 11, 12, 13, 14, 15, 16], [13, 101302099014])] mixed Tryz.func71 rfl Tryz.ntmps71 (rs := [.cell 2 49]) rfl (by decide +kernel) (by kernel_rfl) rfl ?_
  rw [startE_eq 35 _ _ _ rfl rfl]
  simp only [go_sem, seval]
  refine loop_by ([9, 10, 11, 12, 13, 14, 15, 16], [13, 101302099014]) (fun i : Nat => [(.s 8, .int .i64 (i : Int)), (.o 13, deadV i), (.o 14, .obj (i + 1) 99 2 false true ((List.replicate i z).map encStg)), (.o 3, .obj 1 49 2 false false [[.ref 14 (i + 1), .nils]])]) (fun i => c.users.length - i) (fun i => i ≤ c.users.length) 0 rfl (Nat.zero_le _) ?_ ?_
  · simp only [go_sem, seval]
  rintro c' st' hst i0 hi ih
  simp only [go_sem, seval]
  refine ifI (fun hlt => ?_) fun hlt => ?_
  · simp only [go_sem, seval, hlt]
    refine callD_of (hz) ?_
    simp only [go_sem, seval, List.length_replicate, show (i0 + 1) * 40 ≤ 140737488355328 by omega, show i0 + 1 ≤ maxLen by unfold maxLen; omega]
    refine ⟨by decide +kernel, ?_⟩
    refine ih (i0 + 1) _ (by omega) (by omega) ?_
    simp only [go_sem, seval, wrap_succ (show i0 < 9223372036854775807 by omega), jobs_snoc]
  have hn1 : i0 = c.users.length := by omega
  subst hst
  clear ih hi hlt
  simp only [go_sem, seval, hn1]
  refine loop_by ([4, 22, 23, 24, 25, 26, 27, 28, 29, 30, 31, 32, 33], [30, 201302099031]) (fun i : Nat => [(.s 21, .int .i64 (i : Int)), (.o 30, deadV i), (.o 31, .obj (i + 1) 99 2 false true (((List.range i).map f).map encStg)), (.o 3, .obj 1 49 2 false false [[.ref 14 (c.users.length + 1), .ref 31 (i + 1)]])]) (fun i => c.sec.objects.length - i) (fun i => i ≤ c.sec.objects.length) 0 rfl (Nat.zero_le _) ?_ ?_
  · simp only [go_sem, seval, List.range_zero, List.map_nil]
  rintro c' st' hst i1 hi ih
  simp only [go_sem, seval]
  refine ifI (fun hlt => ?_) fun hlt => ?_
  · simp only [go_sem, seval, hlt]
    refine callD_of (hq i1) ?_
    simp only [go_sem, seval]
    refine callD_of (hs i1) ?_
    simp only [go_sem, seval, List.length_map, List.length_range, show (i1 + 1) * 40 ≤ 140737488355328 by omega, show i1 + 1 ≤ maxLen by unfold maxLen; omega]
    refine ⟨by decide +kernel, ?_⟩
    refine ih (i1 + 1) _ (by omega) (by omega) ?_
    simp only [go_sem, seval, wrap_succ (show i1 < 9223372036854775807 by omega), List.map_append, List.map_cons, List.map_nil]
  have hn2 : i1 = c.sec.objects.length := by omega
  subst hst
  simp only [go_sem, seval, hlt, hn2]
set_option maxHeartbeats 4000000 in
theorem rStart_good (c : Case) (h : Right c) : Ans Tryz.prog 36 [.agg (encCase c)] (.agg (encSt (startS (cc c)))) := by
  have hJ := h.J
  have hO := h.O
  have hz := rNew_good 60 (by decide)
  have hq := fun (k : Nat) (hk : k < c.sec.objects.length) => IsSpace_good c (k : Int) (by omega)
  have hc := fun k : Nat => Count_good (spB c (k : Int))
  have he : startS (cc c) = ⟨List.replicate c.users.length (zStg 60), (List.range c.sec.objects.length).map fun k => zStg (quadsC (cc c) k)⟩ := rfl
  rw [he]
  obtain ⟨f, hf⟩ : ∃ f : Nat → Stg, (fun k => zStg (quadsC (cc c) k)) = f := ⟨_, rfl⟩
  have hs : ∀ k : Nat, Ans Tryz.prog 73 [.int .i64 ((quadsC (cc c) k : Nat) : Int)] (.agg (encStg (f k))) := fun k => by
    rw [← hf]; exact rNew_good (quadsC (cc c) k) (by have := quads_le (cc c) k; omega)
  have hm : ∀ k : Nat, IntKind.wrap .i64 (60 * (if spB c (k : Int) = true then 1 else 0)) = ((quadsC (cc c) k : Nat) : Int) := fun k => by
    have hd : quadsC (cc c) k = if spB c (k : Int) = true then 60 else 0 := rfl
    rw [hd]; split <;> rfl
  rw [hf]
  clear hf he
  generalize zStg 60 = z at hz
  refine good_run [(7, [20, 21, 22, 23, 24, 25, 26, 27, 28, 29, 30, 31, 32, 33, 34, 35, 36, 37, 38], [36, 201302099037]), (3, [7, 8, 9, 10, 11, 12, 13, 14, 15, 16, 17, 18, 19], [17, 101302099018])] mixed Tryz.func36 rfl Tryz.ntmps36 (rs := [.cell 2 49]) rfl (by decide +kernel) (by kernel_rfl) rfl ?_
  rw [startE_eq 40 _ _ _ rfl rfl]
  simp only [go_sem, seval]
  refine loop_by ([7, 8, 9, 10, 11, 12, 13, 14, 15, 16, 17, 18, 19], [17, 101302099018]) (fun i : Nat => [(.s 4, .int .i64 (i : Int)), (.o 17, deadV i), (.o 18, .obj (i + 1) 99 2 false true ((List.replicate i z).map encStg)), (.o 3, .obj 1 49 2 false false [[.ref 18 (i + 1), .nils]])]) (fun i => c.users.length - i) (fun i => i ≤ c.users.length) 0 rfl (Nat.zero_le _) ?_ ?_
  · simp only [go_sem, seval]
  rintro c' st' hst i0 hi ih
  simp only [go_sem, seval]
  refine ifI (fun hlt => ?_) fun hlt => ?_
  · simp only [go_sem, seval, hlt]
    refine callD_of (hz) ?_
    simp only [go_sem, seval, List.length_replicate, show (i0 + 1) * 40 ≤ 140737488355328 by omega, show i0 + 1 ≤ maxLen by unfold maxLen; omega]
    refine ⟨by decide +kernel, ?_⟩
    refine ih (i0 + 1) _ (by omega) (by omega) ?_
    simp only [go_sem, seval, wrap_succ (show i0 < 9223372036854775807 by omega), jobs_snoc]
  have hn1 : i0 = c.users.length := by omega
  subst hst
  clear ih hi hlt
  simp only [go_sem, seval, hn1]
  refine loop_by ([20, 21, 22, 23, 24, 25, 26, 27, 28, 29, 30, 31, 32, 33, 34, 35, 36, 37, 38], [36, 201302099037]) (fun i : Nat => [(.s 5, .int .i64 (i : Int)), (.o 36, deadV i), (.o 37, .obj (i + 1) 99 2 false true (((List.range i).map f).map encStg)), (.o 3, .obj 1 49 2 false false [[.ref 18 (c.users.length + 1), .ref 37 (i + 1)]])]) (fun i => c.sec.objects.length - i) (fun i => i ≤ c.sec.objects.length) 0 rfl (Nat.zero_le _) ?_ ?_
  · simp only [go_sem, seval, List.range_zero, List.map_nil]
  rintro c' st' hst i1 hi ih
  simp only [go_sem, seval]
  refine ifI (fun hlt => ?_) fun hlt => ?_
  · simp only [go_sem, seval, hlt]
    refine callD_of (hq i1 (by omega)) ?_
    simp only [go_sem, seval]
    refine callD_of (hc i1) ?_
    simp only [go_sem, seval, hm]
    refine callD_of (hs i1) ?_
    simp only [go_sem, seval, List.length_map, List.length_range, show (i1 + 1) * 40 ≤ 140737488355328 by omega, show i1 + 1 ≤ maxLen by unfold maxLen; omega]
    refine ⟨by decide +kernel, ?_⟩
    refine ih (i1 + 1) _ (by omega) (by omega) ?_
    simp only [go_sem, seval, wrap_succ (show i1 < 9223372036854775807 by omega), List.map_append, List.map_cons, List.map_nil]
  have hn2 : i1 = c.sec.objects.length := by omega
  subst hst
  simp only [go_sem, seval, hlt, hn2]
theorem Start_no {c : Case} (hs : Fit c.sec) (hu : c.users.length ≤ 1000) (he : ¬ (caseE c).2 = 0) : Ans Tryz.prog 33 [.agg (encCase c)] (.tup [.agg [.nils, .nils], .int .i64 (caseE c).2]) := by
  have h := caseErr_good c hs hu
  generalize (caseE c).2 = e at h he
  have het := eq_false he
  refine good_run [] mixed Tryz.func33 rfl Tryz.ntmps33 (rs := [.cell 2 49, .tmp 3]) rfl (by decide +kernel) (by kernel_rfl) rfl ?_
  rw [startE_eq 13 _ _ _ rfl rfl]
  simp only [go_sem, seval]
  refine call_of (h) ?_
  simp only [go_sem, seval, het, not_false_eq_true, decide_true]
theorem Start_good {c : Case} (h : Right c) (he : (caseE c).2 = 0) : Ans Tryz.prog 33 [.agg (encCase c)] (.tup [.agg (encSt (startS (cc c))), .int .i64 0]) := by
  have hE := caseErr_good c h.fit (by have := h.J; omega)
  rw [he] at hE
  have hS := start_good c h
  generalize startS (cc c) = s at hS
  refine good_run [] mixed Tryz.func33 rfl Tryz.ntmps33 (rs := [.cell 2 49, .tmp 3]) rfl (by decide +kernel) (by kernel_rfl) rfl ?_
  rw [startE_eq 13 _ _ _ rfl rfl]
  simp only [go_sem, seval]
  refine call_of (hE) ?_
  simp only [go_sem, seval]
  refine call_of (hS) ?_
  simp only [go_sem, seval]
theorem none_good : Ans Tryz.prog 34 [.agg [.nils, .nils]] (.bool true) := by
  refine good_run [] mixed Tryz.func34 rfl Tryz.ntmps34 (rs := [.tmp 2]) rfl (by decide +kernel) (by kernel_rfl) rfl ?_
  rw [startE_eq 13 _ _ _ rfl rfl]
  simp only [go_sem, seval]
/-! ### A state is the same as itself -/
theorem Bools_self (l : List Bool) (h : l.length ≤ 1000000) : Ans Tryz.prog 151 [.sl (l.map encB), .sl (l.map encB)] (.bool true) := by
  refine good_run [(4, [4, 11, 12, 13, 14, 15, 16, 17, 18, 19, 20, 21, 22, 23, 24, 25], [])] mixed Tryz.func151 rfl Tryz.ntmps151 (rs := [.tmp 4]) rfl (by decide +kernel) (by kernel_rfl) rfl ?_
  rw [startE_eq 26 _ _ _ rfl rfl]
  simp only [go_sem, seval]
  refine loop_by ([4, 11, 12, 13, 14, 15, 16, 17, 18, 19, 20, 21, 22, 23, 24, 25], []) (fun i : Nat => [(.s 5, .int .i64 (i : Int))]) (fun i => l.length - i) (fun i => i ≤ l.length) 0 rfl (Nat.zero_le _) rfl ?_
  rintro c' st' hst i hi ih
  simp only [go_sem, seval]
  refine ifI (fun hlt => ?_) fun hlt => ?_
  · have hlt' : i < l.length := by omega
    simp only [go_sem, seval, hlt, hlt', beq_self_eq_true, Bool.not_true, bne_self_eq_false]
    refine ⟨by decide +kernel, ?_⟩
    refine ih (i + 1) _ (by omega) (by omega) ?_
    simp only [go_sem, seval, wrap_succ (show i < 9223372036854775807 by omega)]
  · subst hst
    simp only [go_sem, seval, hlt]
theorem SameStg_self (x : Stg) (h : x.tags.length ≤ 1000000) : Ans Tryz.prog 114 [.agg (encStg x), .agg (encStg x)] (.bool true) := by
  have hb := Bools_self x.tags h
  refine good_run [] mixed Tryz.func114 rfl Tryz.ntmps114 (rs := [.tmp 4]) rfl (by decide +kernel) (by kernel_rfl) rfl ?_
  rw [startE_eq 17 _ _ _ rfl rfl]
  simp only [go_sem, seval, beq_self_eq_true]
  refine call_of (hb) ?_
  simp only [go_sem, seval]
theorem sameAll_self (l : List Stg) (h : l.length ≤ 1000000) (hl : ∀ x ∈ l, x.tags.length ≤ 1000000) : Ans Tryz.prog 72 [.sl (l.map encStg), .sl (l.map encStg)] (.bool true) := by
  refine good_run [(4, [4, 11, 12, 13, 14, 15, 16, 17, 18, 19, 20, 21, 22, 23, 24, 25, 26], [])] mixed Tryz.func72 rfl Tryz.ntmps72 (rs := [.tmp 4]) rfl (by decide +kernel) (by kernel_rfl) rfl ?_
  rw [startE_eq 27 _ _ _ rfl rfl]
  simp only [go_sem, seval]
  refine loop_by ([4, 11, 12, 13, 14, 15, 16, 17, 18, 19, 20, 21, 22, 23, 24, 25, 26], []) (fun i : Nat => [(.s 5, .int .i64 (i : Int))]) (fun i => l.length - i) (fun i => i ≤ l.length) 0 rfl (Nat.zero_le _) rfl ?_
  rintro c' st' hst i hi ih
  simp only [go_sem, seval]
  refine ifI (fun hlt => ?_) fun hlt => ?_
  · have hlt' : i < l.length := by omega
    have hs := SameStg_self (nth l i) (hl _ (nth_mem hlt'))
    simp only [go_sem, seval, hlt, hlt']
    refine callD_of (hs) ?_
    simp only [go_sem, seval, Bool.not_true]
    refine ⟨by decide +kernel, ?_⟩
    refine ih (i + 1) _ (by omega) (by omega) ?_
    simp only [go_sem, seval, wrap_succ (show i < 9223372036854775807 by omega)]
  · subst hst
    simp only [go_sem, seval, hlt]
theorem SameState_self (s : St) (h1 : s.jobs.length ≤ 1000000) (h2 : s.spaces.length ≤ 1000000) (h3 : ∀ x ∈ s.jobs, x.tags.length ≤ 1000000) (h4 : ∀ x ∈ s.spaces, x.tags.length ≤ 1000000) : Ans Tryz.prog 35 [.agg (encSt s), .agg (encSt s)] (.bool true) := by
  have ha := sameAll_self s.jobs h1 h3
  have hb := sameAll_self s.spaces h2 h4
  refine good_run [] mixed Tryz.func35 rfl Tryz.ntmps35 (rs := [.tmp 4]) rfl (by decide +kernel) (by kernel_rfl) rfl ?_
  rw [startE_eq 17 _ _ _ rfl rfl]
  simp only [go_sem, seval]
  refine call_of (ha) ?_
  simp only [go_sem, seval]
  refine call_of (hb) ?_
  simp only [go_sem, seval]
end Go.Proofs.YtbhgehhmjpipiaaGreat.C12
