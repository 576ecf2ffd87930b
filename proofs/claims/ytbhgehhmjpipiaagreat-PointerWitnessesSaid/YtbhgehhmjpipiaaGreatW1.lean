/- Chapter 12: what the reference writes, steps and runs; the law of witnesses. -/
import Derived.Test.YtbhgehhmjpipiaaGreatG6
import Derived.Test.YtbhgehhmjpipiaaGreatG9
import Derived.Test.YtbhgehhmjpipiaaGreatH3
namespace Go.Proofs.YtbhgehhmjpipiaaGreat.C12
open Go Go.Proofs Go.Proofs.YtbhgehhmjpipiaaGreat.Ab Go.Proofs.YtbhgehhmjpipiaaGreat.C10
set_option maxRecDepth 100000
set_option linter.unusedSimpArgs false
set_option linter.unusedVariables false
attribute [local congr] ite_ctx
/-! ### Numbers as bytes -/
theorem u8_wrap {x : Int} (h : 0 ≤ x) : IntKind.wrap .u8 (Int.tmod x 256) = ((UInt8.ofNat (x % 256).toNat).toNat : Int) := by
  have e : Int.tmod x 256 = x % 256 := Int.tmod_eq_emod_of_nonneg h
  have h1 : (UInt8.ofNat (x % 256).toNat).toNat = (x % 256).toNat := by
    rw [UInt8.toNat_ofNat']
    exact Nat.mod_eq_of_lt (by omega)
  rw [e, h1]
  unfold IntKind.wrap
  simp [IntKind.signed, IntKind.bits]
  omega
/-- The bytes as they stand behind i rounds: zeros, and the last i bytes of the number. -/
def bigR (x : Int) (n i : Nat) : List UInt8 := List.replicate (n - i) 0 ++ bigB x i
theorem bigB_shift : ∀ (i : Nat) (x : Int), bigB x (i + 1) = UInt8.ofNat (x / 256 ^ i % 256).toNat :: bigB x i
  | 0, x => by simp [bigB]
  | i + 1, x => by
    have h := bigB_shift i (x / 256)
    have e : x / 256 / 256 ^ i = x / 256 ^ (i + 1) := by
      rw [Int.ediv_ediv_of_nonneg (by decide), Int.pow_succ, Int.mul_comm]
    rw [bigB, h, e]
    rfl
theorem bigR_step {x : Int} {n i : Nat} (h : i < n) : (bigR x n i).set (n - 1 - i) (UInt8.ofNat (x / 256 ^ i % 256).toNat) = bigR x n (i + 1) := by
  obtain ⟨m, rfl⟩ : ∃ m, n = i + 1 + m := ⟨n - i - 1, by omega⟩
  unfold bigR
  rw [show i + 1 + m - i = m + 1 by omega, show i + 1 + m - 1 - i = m by omega, show i + 1 + m - (i + 1) = m by omega, bigB_shift, List.replicate_succ', List.append_assoc, List.set_append_right _ _ (by rw [List.length_replicate]; exact Nat.le_refl _), List.length_replicate, Nat.sub_self]
  rfl
theorem zero_bytes (n : Nat) : List.replicate n [AV.int .u8 0] = (List.replicate n (0 : UInt8)).map encByte := by rw [List.map_replicate]; rfl
set_option maxHeartbeats 4000000 in
theorem BigBytes_good (x : Int) (n : Nat) (hx : 0 ≤ x ∧ x < 9223372036854775808) (hn : n ≤ 8) : Ans Tryz.prog 160 [.int .i64 x, .int .i64 (n : Int)] (.str (ofL (bigB x n))) := by
  have b0 : (0 : Int) ≤ (n : Int) := by omega
  have b1 : (n : Int) ≤ 16777216 := by omega
  have b2 : n * 1 ≤ 140737488355328 := by omega
  have hz := zero_bytes n
  have hR0 : List.replicate n (0 : UInt8) = bigR x n 0 := by simp [bigR, bigB]
  refine good_run [(3, [9, 10, 11, 12, 13, 14, 15, 16, 17, 18, 19, 20, 21, 22, 23, 24], [])] mixed Tryz.func160 rfl Tryz.ntmps160 (rs := [.tmp 4]) rfl (by decide +kernel) (by kernel_rfl) rfl ?_
  rw [startE_eq 27 _ _ _ rfl rfl]
  simp only [go_sem, seval, b0, b1, b2, Int.toNat_natCast]
  rw [hz, hR0]
  refine loop_by ([9, 10, 11, 12, 13, 14, 15, 16, 17, 18, 19, 20, 21, 22, 23, 24], []) (fun i : Nat => [(.s 6, .int .i64 (i : Int)), (.s 0, .int .i64 (x / 256 ^ i)), (.o 8, .obj 1 5 1 false true ((bigR x n i).map encByte))]) (fun i => n - i) (fun i => i ≤ n) 0 rfl (Nat.zero_le _) ?_ ?_
  · simp only [go_sem, seval]
    simp
  rintro c' st' hst i hi ih
  simp only [go_sem, seval]
  refine ifI (fun hlt => ?_) fun hlt => ?_
  · have hxi : 0 ≤ x / 256 ^ i ∧ x / 256 ^ i < 9223372036854775808 := by
      have h1 : 0 ≤ x / 256 ^ i := Int.ediv_nonneg hx.1 (by exact Int.le_of_lt (Int.pow_pos (by decide)))
      have h2 : x / 256 ^ i ≤ x := Int.ediv_le_self _ hx.1
      omega
    have hstep := bigR_step (x := x) (n := n) (i := i) (by omega)
    have hlen : (bigR x n i).length = n := by unfold bigR; rw [List.length_append, List.length_replicate, bigB_len]; omega
    have hu := u8_wrap hxi.1
    have w1 : IntKind.wrap .i64 ((n : Int) - 1) = ((n - 1 : Nat) : Int) := by rw [wrap_i64 (by omega) (by omega)]; omega
    have w2 : IntKind.wrap .i64 (((n - 1 : Nat) : Int) - (i : Int)) = ((n - 1 - i : Nat) : Int) := by rw [wrap_i64 (by omega) (by omega)]; omega
    have hix : n - 1 - i < (bigR x n i).length := by omega
    have hix2 : ((n - 1 - i : Nat) : Int) < ((bigR x n i).length : Int) := by omega
    have hix0 : (0 : Int) ≤ ((n - 1 - i : Nat) : Int) := by omega
    have hq : (List.map encByte (bigR x n i))[n - 1 - i]? = some [.int .u8 ((nth (bigR x n i) (n - 1 - i)).toNat : Int)] := at_map hix
    have hd : IntKind.wrap .i64 (Int.tdiv (x / 256 ^ i) 256) = x / 256 ^ (i + 1) := by
      rw [Int.tdiv_eq_ediv_of_nonneg hxi.1, wrap_i64 (by omega) (by omega), Int.ediv_ediv_of_nonneg (Int.le_of_lt (Int.pow_pos (by decide))), ← Int.pow_succ]
    have hset : (List.map encByte (bigR x n i)).set (n - 1 - i) [.int .u8 ((UInt8.ofNat (x / 256 ^ i % 256).toNat).toNat : Int)] = List.map encByte (bigR x n (i + 1)) := by
      rw [← hstep, List.map_set]; rfl
    simp only [go_sem, seval, hlt, w1, w2, hix0, hix, hix2, hq, Option.map_some, Tryz.underlying3, Tryz.underlying5, hu, hset, hd, Int.toNat_natCast]
    refine ih (i + 1) _ (by omega) (by omega) ?_
    simp only [go_sem, seval, wrap_succ (show i < 9223372036854775807 by omega)]
  · have hin : i = n := by omega
    subst hst hin
    simp only [go_sem, seval, hlt]
    rw [show bigR x i i = bigB x i by simp [bigR]]
    rfl
theorem Bytes_good (p : Ptr) (hp : ptrE p = 0) : Ans Tryz.prog 125 [.agg (encPtr p)] (.str (ptrB p)) := by
  obtain ⟨h1, h2, h3, h4, h5⟩ := ptrE_ok.1 hp
  have hk := BigBytes_good p.kind 1 (by omega) (by decide)
  have ha := BigBytes_good p.auth 2 (by omega) (by decide)
  have hs := BigBytes_good p.seg 6 (by omega) (by decide)
  have ho := BigBytes_good p.off 6 (by omega) (by decide)
  have hkb : bigB p.kind 1 = [UInt8.ofNat p.kind.toNat] := by
    have : p.kind % 256 = p.kind := by omega
    simp [bigB, this]
  have hb : ofL (bigB p.kind 1) ++ (⟨#[0]⟩ : ByteArray) ++ ofL (bigB p.auth 2) ++ ofL (bigB p.seg 6) ++ ofL (bigB p.off 6) = ptrB p := by
    apply toL_inj
    rw [hkb]
    simp [toL_append, toL_ofL, ptrB, ptrL]
    rfl
  rw [← hb]
  have s1 : (ofL (bigB p.kind 1)).size = 1 := by rw [ofL_size, bigB_len]
  have s2 : (ofL (bigB p.auth 2)).size = 2 := by rw [ofL_size, bigB_len]
  have s3 : (ofL (bigB p.seg 6)).size = 6 := by rw [ofL_size, bigB_len]
  have s4 : (ofL (bigB p.off 6)).size = 6 := by rw [ofL_size, bigB_len]
  generalize ofL (bigB p.kind 1) = bk at hk s1
  generalize ofL (bigB p.auth 2) = ba at ha s2
  generalize ofL (bigB p.seg 6) = bs at hs s3
  generalize ofL (bigB p.off 6) = bo at ho s4
  have s0 : (⟨#[0]⟩ : ByteArray).size = 1 := rfl
  have t1 : ((bk.size + (#[(0 : UInt8)] : Array UInt8).size : Nat) : Int) ≤ 9223372036854775807 := by rw [s1]; decide
  have t2 : ((bk.size + (#[(0 : UInt8)] : Array UInt8).size + ba.size : Nat) : Int) ≤ 9223372036854775807 := by rw [s1, s2]; decide
  have t3 : ((bk.size + (#[(0 : UInt8)] : Array UInt8).size + ba.size + bs.size : Nat) : Int) ≤ 9223372036854775807 := by rw [s1, s2, s3]; decide
  have t4 : ((bk.size + (#[(0 : UInt8)] : Array UInt8).size + ba.size + bs.size + bo.size : Nat) : Int) ≤ 9223372036854775807 := by rw [s1, s2, s3, s4]; decide
  refine good_run [] mixed Tryz.func125 rfl Tryz.ntmps125 (rs := [.tmp 2]) rfl (by decide +kernel) (by kernel_rfl) rfl ?_
  rw [startE_eq 21 _ _ _ rfl rfl]
  simp only [go_sem, seval]
  refine callD_of (hk) ?_
  simp only [go_sem, seval, t1]
  refine callD_of (ha) ?_
  simp only [go_sem, seval, t2]
  refine callD_of (hs) ?_
  simp only [go_sem, seval, t3]
  refine callD_of (ho) ?_
  simp only [go_sem, seval, t4]
  decide +kernel
theorem Patched_good (b : ByteArray) (a : Nat) (d : ByteArray) (h : a + d.size ≤ b.size) (hb : b.size ≤ 1000000) : Ans Tryz.prog 126 [.str b, .int .i64 (a : Int), .str d] (.str (patch b a d)) := by
  have w1 : IntKind.wrap .i64 ((a : Int) + (d.size : Int)) = ((a + d.size : Nat) : Int) := by rw [wrap_i64 (by omega) (by omega)]; omega
  have c0 : (0 : Int) ≤ (a : Int) := by omega
  have c1 : (a : Int) ≤ (b.size : Int) := by omega
  have c2 : (0 : Int) ≤ ((a + d.size : Nat) : Int) := by omega
  have c3 : ((a + d.size : Nat) : Int) ≤ (b.size : Int) := by omega
  have hp : patch b a d = b.extract 0 a ++ d ++ b.extract (a + d.size) b.size := rfl
  rw [hp]
  have e1 : (b.extract 0 a).size = a := by rw [ByteArray.size_extract]; omega
  have e2 : (b.extract (a + d.size) b.size).size = b.size - (a + d.size) := by rw [ByteArray.size_extract]; omega
  have t1 : (((b.extract 0 a).size + d.size : Nat) : Int) ≤ 9223372036854775807 := by rw [e1]; omega
  have t2 : (((b.extract 0 a).size + d.size + (b.extract (a + d.size) b.size).size : Nat) : Int) ≤ 9223372036854775807 := by rw [e1, e2]; omega
  refine good_run [] mixed Tryz.func126 rfl Tryz.ntmps126 (rs := [.tmp 6]) rfl (by decide +kernel) (by kernel_rfl) rfl ?_
  rw [startE_eq 19 _ _ _ rfl rfl]
  simp only [go_sem, seval, w1, c0, c1, c2, c3, Int.toNat_natCast, t1, t2, Nat.le_refl, Int.le_refl]
  decide +kernel
end Go.Proofs.YtbhgehhmjpipiaaGreat.C12
/- Chapter 12: writes of the reference, told as giving back an own row of tags. -/
namespace Go.Proofs.YtbhgehhmjpipiaaGreat.C12
open Go Go.Proofs Go.Proofs.YtbhgehhmjpipiaaGreat.Ab Go.Proofs.YtbhgehhmjpipiaaGreat.C10
set_option maxRecDepth 100000
set_option linter.unusedSimpArgs false
set_option linter.unusedVariables false
attribute [local congr] ite_ctx
theorem CopyBoolsM (l : List Bool) (h0 : 0 < l.length) (h : l.length ≤ 1000) : AnsM Tryz.prog 105 5 [] [.sl (l.map encB)] (.ref 4 1) [(4, .obj 1 4 1 false true (l.map encB))] := by
  have b0 : ¬ l.length = 0 := by omega
  have b1 : (0 + l.length) * 1 ≤ 140737488355328 := by omega
  have b2 : 0 + l.length ≤ maxLen := by unfold maxLen; omega
  have b3 : l.length * 1 ≤ 140737488355328 := by omega
  have b4 : l.length ≤ maxLen := by unfold maxLen; omega
  refine goodM_run [] mixed Tryz.func105 rfl Tryz.ntmps105 (rs := [.tmp 2]) rfl (by decide +kernel) (by kernel_rfl) ?_
  rw [startM_eq 5 _ _ _ _ rfl rfl]
  simp only [go_sem, seval, b0, b1, b2, b3, b4, h0]
  simp
theorem OwnStgM (x : Stg) (h0 : 0 < x.tags.length) (h : x.tags.length ≤ 1000) : AnsM Tryz.prog 60 9 [] [.agg (encStg x)] (.agg [.str x.bytes, .ref 7 1]) [(7, .obj 1 4 1 false true (x.tags.map encB))] := by
  have hc := CopyBoolsM x.tags h0 h
  refine goodM_run [] mixed Tryz.func60 rfl Tryz.ntmps60 (rs := [.cell 2 99]) rfl (by decide +kernel) (by kernel_rfl) ?_
  rw [startM_eq 9 _ _ _ _ rfl rfl]
  simp only [go_sem, seval]
  refine callMD_of [] [7] (hc) ⟨rfl, rfl, rfl, by simp, by simp, by simp, by simp, rfl, rfl, rfl, onodup_of (l := [4]) rfl (by decide)⟩ ?_
  simp only [go_sem, seval]
  refine ⟨by decide +kernel, ?_⟩
  simp
theorem clearT_zero (l : List Bool) (a : Nat) : clearT l a 0 = l := by
  unfold clearT
  apply List.ext_getElem?
  intro j
  rw [List.getElem?_mapIdx]
  cases l[j]? <;> simp [touch]
theorem touch_step (a i j : Nat) : touch a (i + 1) j = (touch a i j || decide (j = (a + i) / 16)) := by
  rw [Bool.eq_iff_iff]
  simp only [touch, Bool.and_eq_true, Bool.or_eq_true, decide_eq_true_eq]
  omega
theorem clearT_step {l : List Bool} {a i : Nat} (h : (a + i) / 16 < l.length) : (clearT l a i).set ((a + i) / 16) false = clearT l a (i + 1) := by
  unfold clearT
  apply List.ext_getElem?
  intro j
  rw [List.getElem?_set, List.getElem?_mapIdx, List.getElem?_mapIdx, List.length_mapIdx]
  by_cases hj : (a + i) / 16 = j
  · subst hj
    rw [if_pos rfl, if_pos h, List.getElem?_eq_getElem h]
    simp [touch_step]
  · rw [if_neg hj]
    have : decide (j = (a + i) / 16) = false := decide_eq_false fun e => hj e.symm
    cases l[j]? <;> simp [touch_step, this]
set_option maxHeartbeats 8000000 in
theorem WriteM (s : Stg) (a : Nat) (d : ByteArray) (h0 : 0 < s.tags.length) (ht : s.tags.length ≤ 1000) (hs : s.bytes.size = 16 * s.tags.length) (h : a + d.size ≤ s.bytes.size) :
    AnsM Tryz.prog 90 31 [] [.agg (encStg s), .int .i64 (a : Int), .str d] (.agg [.str (patch s.bytes a d), .ref 10 1]) [(10, .obj 1 4 1 false true ((clearT s.tags a d.size).map encB))] := by
  have ho := OwnStgM s h0 ht
  have hp := Patched_good s.bytes a d h (by omega)
  have hz := clearT_zero s.tags a
  generalize patch s.bytes a d = pb at hp
  refine goodM_run [(4, [17, 18, 19, 20, 21, 22, 23, 24, 25, 26, 27, 28, 29], [])] mixed Tryz.func90 rfl Tryz.ntmps90 (rs := [.cell 6 99]) rfl (by decide +kernel) (by kernel_rfl) ?_
  rw [startM_eq 31 _ _ _ _ rfl rfl]
  simp only [go_sem, seval]
  refine callM_of [] [10] (ho) ⟨rfl, rfl, rfl, by simp, by simp, by simp, by simp, rfl, rfl, rfl, onodup_of (l := [7]) rfl (by decide)⟩ ?_
  simp only [go_sem, seval]
  refine call_of (hp) ?_
  simp only [go_sem, seval]
  refine loop_by ([17, 18, 19, 20, 21, 22, 23, 24, 25, 26, 27, 28, 29], []) (fun i : Nat => [(.s 8, .int .i64 (i : Int)), (.o 10, .obj 1 4 1 false true ((clearT s.tags a i).map encB))]) (fun i => d.size - i) (fun i => i ≤ d.size) 0 rfl (Nat.zero_le _) ?_ ?_
  · simp only [go_sem, seval, hz]
  rintro c' st' hst i hi ih
  simp only [go_sem, seval]
  refine ifI (fun hlt => ?_) fun hlt => ?_
  · have w1 : IntKind.wrap .i64 ((a : Int) + (i : Int)) = ((a + i : Nat) : Int) := by rw [wrap_i64 (by omega) (by omega)]; omega
    have w2 : IntKind.wrap .i64 (Int.tdiv ((a + i : Nat) : Int) 16) = (((a + i) / 16 : Nat) : Int) := by rw [Int.tdiv_eq_ediv_of_nonneg (by omega), wrap_i64 (by omega) (by omega)]; omega
    have hix : (a + i) / 16 < s.tags.length := by omega
    have hcl := clearT_len s.tags a i
    have hst := clearT_step (l := s.tags) (a := a) (i := i) hix
    have hix1 : (a + i) / 16 < (clearT s.tags a i).length := by omega
    have hix2 : (((a + i) / 16 : Nat) : Int) < ((clearT s.tags a i).length : Int) := by omega
    have hix0 : (0 : Int) ≤ (((a + i) / 16 : Nat) : Int) := by omega
    have hq : (List.map encB (clearT s.tags a i))[(a + i) / 16]? = some [.bool (nth (clearT s.tags a i) ((a + i) / 16))] := at_map hix1
    have hset : (List.map encB (clearT s.tags a i)).set ((a + i) / 16) [.bool false] = List.map encB (clearT s.tags a (i + 1)) := by
      rw [← hst, List.map_set]; rfl
    generalize (a + i) / 16 = ix at w2 hix hix1 hix2 hix0 hq hset hst
    simp only [go_sem, seval, hlt, w1, w2, hix0, hix1, hix2, hq, Option.map_some, hset, Int.toNat_natCast]
    refine ih (i + 1) _ (by omega) (by omega) ?_
    simp only [go_sem, seval, wrap_succ (show i < 9223372036854775807 by omega)]
  · have hin : i = d.size := by omega
    subst hst
    simp only [go_sem, seval, hlt]
    rw [hin]
    simp
theorem WriteQ (s : Stg) (k : Nat) (q : ByteArray) (hq : q.size = 16) (hk : k < s.tags.length) (ht : s.tags.length ≤ 1000) (hs : s.bytes.size = 16 * s.tags.length) :
    AnsM Tryz.prog 90 31 [] [.agg (encStg s), .int .i64 ((16 * k : Nat) : Int), .str q] (.agg [.str (patch s.bytes (16 * k) q), .ref 10 1]) [(10, .obj 1 4 1 false true ((s.tags.set k false).map encB))] := by
  have h := WriteM s (16 * k) q (by omega) ht hs (by omega)
  rw [hq, clearT_quad] at h
  exact h
set_option maxHeartbeats 4000000 in
theorem Store_good (s : Stg) (k : Nat) (p : Ptr) (hp : ptrE p = 0) (hk : k < s.tags.length) (ht : s.tags.length ≤ 1000) (hs : s.bytes.size = 16 * s.tags.length) :
    Ans Tryz.prog 89 [.agg (encStg s), .int .i64 ((16 * k : Nat) : Int), .agg (encPtr p)] (.agg (encStg (setQ s k (ptrB p) true))) := by
  have hb := Bytes_good p hp
  have hw := WriteQ s k (ptrB p) (ptrB_size p) hk ht hs
  have hse : encStg (setQ s k (ptrB p) true) = [.str (patch s.bytes (16 * k) (ptrB p)), .sl ((s.tags.set k true).map encB)] := rfl
  rw [hse]
  have d1 : IntKind.wrap .i64 (Int.tdiv ((16 * k : Nat) : Int) 16) = (k : Int) := by rw [Int.tdiv_eq_ediv_of_nonneg (by omega), wrap_i64 (by omega) (by omega)]; omega
  have hix1 : k < (s.tags.set k false).length := by rw [List.length_set]; exact hk
  have hix2 : (k : Int) < ((s.tags.set k false).length : Int) := by omega
  have hq : (List.map encB (s.tags.set k false))[k]? = some [.bool (nth (s.tags.set k false) k)] := at_map hix1
  have hset : (List.map encB (s.tags.set k false)).set k [.bool true] = List.map encB (s.tags.set k true) := by
    rw [show [AV.bool true] = encB true from rfl, ← List.map_set, List.set_set]
  generalize ((16 * k : Nat) : Int) = a at hw d1
  generalize patch s.bytes (16 * k) (ptrB p) = pb at hw
  generalize ptrB p = bb at hb hw
  refine good_run [] mixed Tryz.func89 rfl Tryz.ntmps89 (rs := [.cell 6 99]) rfl (by decide +kernel) (by kernel_rfl) rfl ?_
  rw [startE_eq 19 _ _ _ rfl rfl]
  simp only [go_sem, seval]
  refine callD_of (hb) ?_
  simp only [go_sem, seval]
  refine callMD_of [] [12] (hw) ⟨rfl, rfl, rfl, by simp, by simp, by simp, by simp, rfl, rfl, rfl, onodup_of (l := [10]) rfl (by decide)⟩ ?_
  simp only [go_sem, seval]
  refine ⟨by decide +kernel, ?_⟩
  simp only [go_sem, seval, d1, hix1, hix2, hq, Option.map_some, hset, Int.toNat_natCast]
set_option maxHeartbeats 4000000 in
theorem moved_good (x y : Stg) (i j : Nat) (hi : i < x.tags.length) (hx : x.bytes.size = 16 * x.tags.length) (hxt : x.tags.length ≤ 1000) (hj : j < y.tags.length) (hy : y.bytes.size = 16 * y.tags.length) (hyt : y.tags.length ≤ 1000) :
    Ans Tryz.prog 127 [.agg (encStg x), .int .i64 (i : Int), .agg (encStg y), .int .i64 (j : Int)] (.agg (encStg (setQ y j (quadB x.bytes i) (nth x.tags i)))) := by
  have hw := WriteQ y j (quadB x.bytes i) (quadB_size (by omega)) hj hyt hy
  have hse : encStg (setQ y j (quadB x.bytes i) (nth x.tags i)) = [.str (patch y.bytes (16 * j) (quadB x.bytes i)), .sl ((y.tags.set j (nth x.tags i)).map encB)] := rfl
  rw [hse]
  have w0 : IntKind.wrap .i64 ((j : Int) * 16) = ((16 * j : Nat) : Int) := by rw [wrap_i64 (by omega) (by omega)]; omega
  have w1 : IntKind.wrap .i64 ((i : Int) * 16) = ((16 * i : Nat) : Int) := by rw [wrap_i64 (by omega) (by omega)]; omega
  have w2 : IntKind.wrap .i64 (((16 * i : Nat) : Int) + 16) = ((16 * i + 16 : Nat) : Int) := by rw [wrap_i64 (by omega) (by omega)]; omega
  have c0 : (0 : Int) ≤ ((16 * i : Nat) : Int) := by omega
  have c1 : ((16 * i : Nat) : Int) ≤ ((16 * i + 16 : Nat) : Int) := by omega
  have c2 : ((16 * i + 16 : Nat) : Int) ≤ (x.bytes.size : Int) := by omega
  have hqe : x.bytes.extract (16 * i) (16 * i + 16) = quadB x.bytes i := rfl
  have hi2 : (i : Int) < (x.tags.length : Int) := by omega
  have hix1 : j < (y.tags.set j false).length := by rw [List.length_set]; exact hj
  have hix2 : (j : Int) < ((y.tags.set j false).length : Int) := by omega
  have hq : (List.map encB (y.tags.set j false))[j]? = some [.bool (nth (y.tags.set j false) j)] := at_map hix1
  have hset : (List.map encB (y.tags.set j false)).set j [.bool (nth x.tags i)] = List.map encB (y.tags.set j (nth x.tags i)) := by
    rw [show [AV.bool (nth x.tags i)] = encB (nth x.tags i) from rfl, ← List.map_set, List.set_set]
  generalize patch y.bytes (16 * j) (quadB x.bytes i) = pb at hw
  refine good_run [] mixed Tryz.func127 rfl Tryz.ntmps127 (rs := [.cell 8 99]) rfl (by decide +kernel) (by kernel_rfl) rfl ?_
  rw [startE_eq 32 _ _ _ rfl rfl]
  simp only [go_sem, seval, w0, w1, w2, c0, c1, c2, hqe, Int.toNat_natCast]
  refine callMD_of [] [21] (hw) ⟨rfl, rfl, rfl, by simp, by simp, by simp, by simp, rfl, rfl, rfl, onodup_of (l := [10]) rfl (by decide)⟩ ?_
  simp only [go_sem, seval]
  refine ⟨by decide +kernel, ?_⟩
  simp only [go_sem, seval, hi, hi2, hix1, hix2, hq, Option.map_some, hset, Int.toNat_natCast]
  decide +kernel
end Go.Proofs.YtbhgehhmjpipiaaGreat.C12
/- Chapter 12: a state's own copy, told as giving back own rows. -/
namespace Go.Proofs.YtbhgehhmjpipiaaGreat.C12
open Go Go.Proofs Go.Proofs.YtbhgehhmjpipiaaGreat.Ab Go.Proofs.YtbhgehhmjpipiaaGreat.C10
set_option maxRecDepth 100000
set_option linter.unusedSimpArgs false
set_option linter.unusedVariables false
attribute [local congr] ite_ctx
set_option maxHeartbeats 4000000 in
theorem OwnStateM (s : St) (h1 : s.jobs.length ≤ 1000) (h2 : s.spaces.length ≤ 1000) (h3 : ∀ x ∈ s.jobs, x.tags.length ≤ 1000) (h4 : ∀ x ∈ s.spaces, x.tags.length ≤ 1000) : AnsM Tryz.prog 27 44 [] [.agg (encSt s)] (.agg [.ref 23 (s.jobs.length + 1), .ref 41 (s.spaces.length + 1)])
    [(23, .obj (s.jobs.length + 1) 99 2 false true (s.jobs.map encStg)), (41, .obj (s.spaces.length + 1) 99 2 false true (s.spaces.map encStg))] := by
  refine goodM_run [(7, [25, 26, 27, 28, 29, 30, 31, 32, 33, 34, 35, 36, 37, 38, 39, 40, 41, 42], [40, 201302099041]), (3, [7, 8, 9, 10, 11, 12, 13, 14, 15, 16, 17, 18, 19, 20, 21, 22, 23, 24], [22, 101302099023])] mixed Tryz.func27 rfl Tryz.ntmps27 (rs := [.cell 2 49]) rfl (by decide +kernel) (by kernel_rfl) ?_
  rw [startM_eq 44 _ _ _ _ rfl rfl]
  simp only [go_sem, seval]
  refine loop_by ([7, 8, 9, 10, 11, 12, 13, 14, 15, 16, 17, 18, 19, 20, 21, 22, 23, 24], [22, 101302099023]) (fun i : Nat => [(.s 4, .int .i64 (i : Int)), (.o 22, deadV i), (.o 23, .obj (i + 1) 99 2 false true ((s.jobs.take i).map encStg)), (.o 3, .obj 1 49 2 false false [[.ref 23 (i + 1), .nils]])]) (fun i => s.jobs.length - i) (fun i => i ≤ s.jobs.length) 0 rfl (Nat.zero_le _) ?_ ?_
  · simp only [go_sem, seval]
  rintro c' st' hst i0 hi ih
  simp only [go_sem, seval]
  refine ifI (fun hlt => ?_) fun hlt => ?_
  · have hlt' : i0 < s.jobs.length := by omega
    have hl : (List.take i0 s.jobs).length ≤ 1000 := by rw [List.length_take]; omega
    have ho := OwnStg_good (nth s.jobs i0) (h3 _ (nth_mem hlt'))
    have hr := row_snoc (f := encStg) hlt'
    simp only [encStg] at hr
    simp only [go_sem, seval, hlt, hlt']
    refine callD_of (ho) ?_
    simp only [go_sem, seval, show ((List.take i0 s.jobs).length + 1) * 40 ≤ 140737488355328 by omega, show (List.take i0 s.jobs).length + 1 ≤ maxLen by unfold maxLen; omega]
    refine ⟨by decide +kernel, ?_⟩
    refine ih (i0 + 1) _ (by omega) (by omega) ?_
    simp only [go_sem, seval, wrap_succ (show i0 < 9223372036854775807 by omega), hr]
  have hn1 : s.jobs.length ≤ i0 := by omega
  have hz1 : i0 = s.jobs.length := by omega
  subst hst
  clear ih hi
  simp only [go_sem, seval, hlt, List.take_of_length_le hn1]
  refine loop_by ([25, 26, 27, 28, 29, 30, 31, 32, 33, 34, 35, 36, 37, 38, 39, 40, 41, 42], [40, 201302099041]) (fun i : Nat => [(.s 5, .int .i64 (i : Int)), (.o 40, deadV i), (.o 41, .obj (i + 1) 99 2 false true ((s.spaces.take i).map encStg)), (.o 3, .obj 1 49 2 false false [[.ref 23 (i0 + 1), .ref 41 (i + 1)]])]) (fun i => s.spaces.length - i) (fun i => i ≤ s.spaces.length) 0 rfl (Nat.zero_le _) ?_ ?_
  · simp only [go_sem, seval]
  rintro c' st' hst i1 hi ih
  simp only [go_sem, seval]
  refine ifI (fun hlt => ?_) fun hlt => ?_
  · have hlt' : i1 < s.spaces.length := by omega
    have hl : (List.take i1 s.spaces).length ≤ 1000 := by rw [List.length_take]; omega
    have ho := OwnStg_good (nth s.spaces i1) (h4 _ (nth_mem hlt'))
    have hr := row_snoc (f := encStg) hlt'
    simp only [encStg] at hr
    simp only [go_sem, seval, hlt, hlt']
    refine callD_of (ho) ?_
    simp only [go_sem, seval, show ((List.take i1 s.spaces).length + 1) * 40 ≤ 140737488355328 by omega, show (List.take i1 s.spaces).length + 1 ≤ maxLen by unfold maxLen; omega]
    refine ⟨by decide +kernel, ?_⟩
    refine ih (i1 + 1) _ (by omega) (by omega) ?_
    simp only [go_sem, seval, wrap_succ (show i1 < 9223372036854775807 by omega), hr]
  have hn2 : s.spaces.length ≤ i1 := by omega
  have hz2 : i1 = s.spaces.length := by omega
  subst hst
  simp only [go_sem, seval, hlt, List.take_of_length_le hn2]
  rw [hz1, hz2]
  simp
end Go.Proofs.YtbhgehhmjpipiaaGreat.C12
namespace Go.Proofs.YtbhgehhmjpipiaaGreat.C12
open Go Go.Proofs Go.Proofs.YtbhgehhmjpipiaaGreat.Ab Go.Proofs.YtbhgehhmjpipiaaGreat.C10
set_option maxRecDepth 100000
set_option linter.unusedSimpArgs false
set_option linter.unusedVariables false
attribute [local congr] ite_ctx
theorem isQ_good (n : Int) : Ans Tryz.prog 124 [.int .i64 n] (.bool (isQ n)) := by
  have h := Within_good n 0 59
  have e : inB n 0 59 = isQ n := rfl
  rw [e] at h
  generalize isQ n = b at h
  refine good_run [] mixed Tryz.func124 rfl Tryz.ntmps124 (rs := [.tmp 2]) rfl (by decide +kernel) (by kernel_rfl) rfl ?_
  rw [startE_eq 5 _ _ _ rfl rfl]
  simp only [go_sem, seval]
  refine call_of (h) ?_
  simp only [go_sem, seval]
set_option maxHeartbeats 8000000 in
theorem fields_0 (c : Case) (hO : c.sec.objects.length ≤ 1000) (job src dst pointer object auth : Int) (data : ByteArray) (hd : data.size ≤ 1000000) : Ans Tryz.prog 88 [.agg (encCase c), .agg (encCOp ⟨0, job, src, dst, pointer, object, auth, data⟩)] (.int .i64 (if badF (cc c) ⟨0, job, src, dst, pointer, object, auth, data⟩ = true then 3 else 0)) := by
  generalize hB : badF (cc c) ⟨0, job, src, dst, pointer, object, auth, data⟩ = B
  have w2 : IntKind.wrap .i64 ((c.sec.objects.length : Int) - 1) = (c.sec.objects.length : Int) - 1 := wrap_i64 (by omega) (by omega)
  have hO2 : ((cc c).O : Int) = (c.sec.objects.length : Int) := rfl
  have hoe : decide (0 ≤ object ∧ object < ((cc c).O : Int)) = inB object 0 ((c.sec.objects.length : Int) - 1) := by
    rw [hO2]; unfold inB
    exact decide_eq_decide.2 (by omega)
  have hdef : B = (!(isQ dst) || !(inB object 0 ((c.sec.objects.length : Int) - 1))) := by
    rw [← hB]
    simp only [badF, hoe]
    simp
  clear hB
  have ht := isQ_good dst
  have ho := Within_good object 0 ((c.sec.objects.length : Int) - 1)
  generalize isQ dst = bt at ht hdef
  generalize inB object 0 ((c.sec.objects.length : Int) - 1) = bo at ho hdef
  cases bt with
  | false =>
    have hb : B = true := by rw [hdef]; simp
    rw [hb]
    simp only [if_true]
    refine good_run [] mixed Tryz.func88 rfl Tryz.ntmps88 (rs := [.tmp 4]) rfl (by decide +kernel) (by kernel_rfl) rfl ?_
    rw [startE_eq 118 _ _ _ rfl rfl]
    simp only [go_sem, seval, Bool.not_true, Bool.not_false, w2]
    refine call_of (ht) ?_
    simp only [go_sem, seval, Bool.not_true, Bool.not_false, w2]
  | true =>
  cases bo with
  | false =>
    have hb : B = true := by rw [hdef]; simp
    rw [hb]
    simp only [if_true]
    refine good_run [] mixed Tryz.func88 rfl Tryz.ntmps88 (rs := [.tmp 4]) rfl (by decide +kernel) (by kernel_rfl) rfl ?_
    rw [startE_eq 118 _ _ _ rfl rfl]
    simp only [go_sem, seval, Bool.not_true, Bool.not_false, w2]
    refine call_of (ht) ?_
    simp only [go_sem, seval, Bool.not_true, Bool.not_false, w2]
    refine call_of (ho) ?_
    simp only [go_sem, seval, Bool.not_true, Bool.not_false, w2]
  | true =>
  have hb : B = false := by rw [hdef]; simp
  rw [hb]
  simp only [Bool.false_eq_true, if_false]
  refine good_run [] mixed Tryz.func88 rfl Tryz.ntmps88 (rs := [.tmp 4]) rfl (by decide +kernel) (by kernel_rfl) rfl ?_
  rw [startE_eq 118 _ _ _ rfl rfl]
  simp only [go_sem, seval, Bool.not_true, Bool.not_false, w2]
  refine call_of (ht) ?_
  simp only [go_sem, seval, Bool.not_true, Bool.not_false, w2]
  refine call_of (ho) ?_
  simp only [go_sem, seval, Bool.not_true, Bool.not_false, w2]
set_option maxHeartbeats 8000000 in
theorem fields_1 (c : Case) (hO : c.sec.objects.length ≤ 1000) (job src dst pointer object auth : Int) (data : ByteArray) (hd : data.size ≤ 1000000) : Ans Tryz.prog 88 [.agg (encCase c), .agg (encCOp ⟨1, job, src, dst, pointer, object, auth, data⟩)] (.int .i64 (if badF (cc c) ⟨1, job, src, dst, pointer, object, auth, data⟩ = true then 3 else 0)) := by
  generalize hB : badF (cc c) ⟨1, job, src, dst, pointer, object, auth, data⟩ = B
  have hdef : B = (!(inB dst 0 960) || decide ((data.size : Int) > 960 - dst)) := by
    rw [← hB, Bool.eq_iff_iff]
    simp [badF, isQ, inB]
    omega
  clear hB
  have hw := Within_good dst 0 960
  have hwr : inB dst 0 960 = true → 0 ≤ dst ∧ dst ≤ 960 := fun h => by unfold inB at h; exact of_decide_eq_true h
  generalize inB dst 0 960 = bw at hw hdef hwr
  cases bw with
  | false =>
    have hb : B = true := by rw [hdef]; simp
    rw [hb]
    simp only [if_true]
    refine good_run [] mixed Tryz.func88 rfl Tryz.ntmps88 (rs := [.tmp 4]) rfl (by decide +kernel) (by kernel_rfl) rfl ?_
    rw [startE_eq 118 _ _ _ rfl rfl]
    simp only [go_sem, seval, Bool.not_true, Bool.not_false]
    refine call_of (hw) ?_
    simp only [go_sem, seval, Bool.not_true, Bool.not_false]
  | true =>
  have hr := hwr rfl
  have w3 : IntKind.wrap .i64 (960 - dst) = 960 - dst := wrap_i64 (by omega) (by omega)
  refine Classical.byCases (fun hz : (data.size : Int) > 960 - dst => ?_) fun hz => ?_
  · have hzt := eq_true hz
    have hb : B = true := by rw [hdef, decide_eq_true hz]; simp
    rw [hb]
    simp only [if_true]
    refine good_run [] mixed Tryz.func88 rfl Tryz.ntmps88 (rs := [.tmp 4]) rfl (by decide +kernel) (by kernel_rfl) rfl ?_
    rw [startE_eq 118 _ _ _ rfl rfl]
    simp only [go_sem, seval, Bool.not_true, Bool.not_false]
    refine call_of (hw) ?_
    simp only [go_sem, seval, Bool.not_true, Bool.not_false, w3, hzt, decide_true]
  · have hzt := eq_false hz
    have hb : B = false := by rw [hdef, decide_eq_false hz]; simp
    rw [hb]
    simp only [Bool.false_eq_true, if_false]
    refine good_run [] mixed Tryz.func88 rfl Tryz.ntmps88 (rs := [.tmp 4]) rfl (by decide +kernel) (by kernel_rfl) rfl ?_
    rw [startE_eq 118 _ _ _ rfl rfl]
    simp only [go_sem, seval, Bool.not_true, Bool.not_false]
    refine call_of (hw) ?_
    simp only [go_sem, seval, Bool.not_true, Bool.not_false, w3, hzt, decide_false]
set_option maxHeartbeats 8000000 in
theorem fields_2 (c : Case) (hO : c.sec.objects.length ≤ 1000) (job src dst pointer object auth : Int) (data : ByteArray) (hd : data.size ≤ 1000000) : Ans Tryz.prog 88 [.agg (encCase c), .agg (encCOp ⟨2, job, src, dst, pointer, object, auth, data⟩)] (.int .i64 (if badF (cc c) ⟨2, job, src, dst, pointer, object, auth, data⟩ = true then 3 else 0)) := by
  generalize hB : badF (cc c) ⟨2, job, src, dst, pointer, object, auth, data⟩ = B
  have hdef : B = (!(isQ src) || !(isQ dst)) := by
    rw [← hB]
    simp [badF]
  clear hB
  have hs := isQ_good src
  have ht := isQ_good dst
  generalize isQ src = bs at hs hdef
  generalize isQ dst = bt at ht hdef
  cases bs with
  | false =>
    have hb : B = true := by rw [hdef]; simp
    rw [hb]
    simp only [if_true]
    refine good_run [] mixed Tryz.func88 rfl Tryz.ntmps88 (rs := [.tmp 4]) rfl (by decide +kernel) (by kernel_rfl) rfl ?_
    rw [startE_eq 118 _ _ _ rfl rfl]
    simp only [go_sem, seval, Bool.not_true, Bool.not_false]
    refine call_of (hs) ?_
    simp only [go_sem, seval, Bool.not_true, Bool.not_false]
  | true =>
  cases bt with
  | false =>
    have hb : B = true := by rw [hdef]; simp
    rw [hb]
    simp only [if_true]
    refine good_run [] mixed Tryz.func88 rfl Tryz.ntmps88 (rs := [.tmp 4]) rfl (by decide +kernel) (by kernel_rfl) rfl ?_
    rw [startE_eq 118 _ _ _ rfl rfl]
    simp only [go_sem, seval, Bool.not_true, Bool.not_false]
    refine call_of (hs) ?_
    simp only [go_sem, seval, Bool.not_true, Bool.not_false]
    refine call_of (ht) ?_
    simp only [go_sem, seval, Bool.not_true, Bool.not_false]
  | true =>
  have hb : B = false := by rw [hdef]; simp
  rw [hb]
  simp only [Bool.false_eq_true, if_false]
  refine good_run [] mixed Tryz.func88 rfl Tryz.ntmps88 (rs := [.tmp 4]) rfl (by decide +kernel) (by kernel_rfl) rfl ?_
  rw [startE_eq 118 _ _ _ rfl rfl]
  simp only [go_sem, seval, Bool.not_true, Bool.not_false]
  refine call_of (hs) ?_
  simp only [go_sem, seval, Bool.not_true, Bool.not_false]
  refine call_of (ht) ?_
  simp only [go_sem, seval, Bool.not_true, Bool.not_false]
set_option maxHeartbeats 8000000 in
theorem fields_3 (c : Case) (hO : c.sec.objects.length ≤ 1000) (job src dst pointer object auth : Int) (data : ByteArray) (hd : data.size ≤ 1000000) : Ans Tryz.prog 88 [.agg (encCase c), .agg (encCOp ⟨3, job, src, dst, pointer, object, auth, data⟩)] (.int .i64 (if badF (cc c) ⟨3, job, src, dst, pointer, object, auth, data⟩ = true then 3 else 0)) := by
  generalize hB : badF (cc c) ⟨3, job, src, dst, pointer, object, auth, data⟩ = B
  have hdef : B = (!(isQ src) || !(isQ dst)) := by
    rw [← hB]
    simp [badF]
  clear hB
  have hs := isQ_good src
  have ht := isQ_good dst
  generalize isQ src = bs at hs hdef
  generalize isQ dst = bt at ht hdef
  cases bs with
  | false =>
    have hb : B = true := by rw [hdef]; simp
    rw [hb]
    simp only [if_true]
    refine good_run [] mixed Tryz.func88 rfl Tryz.ntmps88 (rs := [.tmp 4]) rfl (by decide +kernel) (by kernel_rfl) rfl ?_
    rw [startE_eq 118 _ _ _ rfl rfl]
    simp only [go_sem, seval, Bool.not_true, Bool.not_false]
    refine call_of (hs) ?_
    simp only [go_sem, seval, Bool.not_true, Bool.not_false]
  | true =>
  cases bt with
  | false =>
    have hb : B = true := by rw [hdef]; simp
    rw [hb]
    simp only [if_true]
    refine good_run [] mixed Tryz.func88 rfl Tryz.ntmps88 (rs := [.tmp 4]) rfl (by decide +kernel) (by kernel_rfl) rfl ?_
    rw [startE_eq 118 _ _ _ rfl rfl]
    simp only [go_sem, seval, Bool.not_true, Bool.not_false]
    refine call_of (hs) ?_
    simp only [go_sem, seval, Bool.not_true, Bool.not_false]
    refine call_of (ht) ?_
    simp only [go_sem, seval, Bool.not_true, Bool.not_false]
  | true =>
  have hb : B = false := by rw [hdef]; simp
  rw [hb]
  simp only [Bool.false_eq_true, if_false]
  refine good_run [] mixed Tryz.func88 rfl Tryz.ntmps88 (rs := [.tmp 4]) rfl (by decide +kernel) (by kernel_rfl) rfl ?_
  rw [startE_eq 118 _ _ _ rfl rfl]
  simp only [go_sem, seval, Bool.not_true, Bool.not_false]
  refine call_of (hs) ?_
  simp only [go_sem, seval, Bool.not_true, Bool.not_false]
  refine call_of (ht) ?_
  simp only [go_sem, seval, Bool.not_true, Bool.not_false]
set_option maxHeartbeats 8000000 in
theorem fields_4 (c : Case) (hO : c.sec.objects.length ≤ 1000) (job src dst pointer object auth : Int) (data : ByteArray) (hd : data.size ≤ 1000000) : Ans Tryz.prog 88 [.agg (encCase c), .agg (encCOp ⟨4, job, src, dst, pointer, object, auth, data⟩)] (.int .i64 (if badF (cc c) ⟨4, job, src, dst, pointer, object, auth, data⟩ = true then 3 else 0)) := by
  generalize hB : badF (cc c) ⟨4, job, src, dst, pointer, object, auth, data⟩ = B
  have hdef : B = (!(isQ src) || !(inB auth 0 1023)) := by
    rw [← hB, Bool.eq_iff_iff]
    simp [badF, isQ, inB, cc, decide_eq_false_iff_not]
    try omega
  clear hB
  have hs := isQ_good src
  have ha := Within_good auth 0 1023
  generalize isQ src = bs at hs hdef
  generalize inB auth 0 1023 = ba at ha hdef
  cases bs with
  | false =>
    have hb : B = true := by rw [hdef]; simp
    rw [hb]
    simp only [if_true]
    refine good_run [] mixed Tryz.func88 rfl Tryz.ntmps88 (rs := [.tmp 4]) rfl (by decide +kernel) (by kernel_rfl) rfl ?_
    rw [startE_eq 118 _ _ _ rfl rfl]
    simp only [go_sem, seval, Bool.not_true, Bool.not_false]
    refine call_of (hs) ?_
    simp only [go_sem, seval, Bool.not_true, Bool.not_false]
  | true =>
  cases ba with
  | false =>
    have hb : B = true := by rw [hdef]; simp
    rw [hb]
    simp only [if_true]
    refine good_run [] mixed Tryz.func88 rfl Tryz.ntmps88 (rs := [.tmp 4]) rfl (by decide +kernel) (by kernel_rfl) rfl ?_
    rw [startE_eq 118 _ _ _ rfl rfl]
    simp only [go_sem, seval, Bool.not_true, Bool.not_false]
    refine call_of (hs) ?_
    simp only [go_sem, seval, Bool.not_true, Bool.not_false]
    refine call_of (ha) ?_
    simp only [go_sem, seval, Bool.not_true, Bool.not_false]
  | true =>
  have hb : B = false := by rw [hdef]; simp
  rw [hb]
  simp only [Bool.false_eq_true, if_false]
  refine good_run [] mixed Tryz.func88 rfl Tryz.ntmps88 (rs := [.tmp 4]) rfl (by decide +kernel) (by kernel_rfl) rfl ?_
  rw [startE_eq 118 _ _ _ rfl rfl]
  simp only [go_sem, seval, Bool.not_true, Bool.not_false]
  refine call_of (hs) ?_
  simp only [go_sem, seval, Bool.not_true, Bool.not_false]
  refine call_of (ha) ?_
  simp only [go_sem, seval, Bool.not_true, Bool.not_false]
set_option maxHeartbeats 8000000 in
theorem fields_5 (c : Case) (hO : c.sec.objects.length ≤ 1000) (job src dst pointer object auth : Int) (data : ByteArray) (hd : data.size ≤ 1000000) : Ans Tryz.prog 88 [.agg (encCase c), .agg (encCOp ⟨5, job, src, dst, pointer, object, auth, data⟩)] (.int .i64 (if badF (cc c) ⟨5, job, src, dst, pointer, object, auth, data⟩ = true then 3 else 0)) := by
  generalize hB : badF (cc c) ⟨5, job, src, dst, pointer, object, auth, data⟩ = B
  have hdef : B = (!(isQ src) || !(isQ dst)) := by
    rw [← hB]
    simp [badF]
  clear hB
  have hs := isQ_good src
  have ht := isQ_good dst
  generalize isQ src = bs at hs hdef
  generalize isQ dst = bt at ht hdef
  cases bs with
  | false =>
    have hb : B = true := by rw [hdef]; simp
    rw [hb]
    simp only [if_true]
    refine good_run [] mixed Tryz.func88 rfl Tryz.ntmps88 (rs := [.tmp 4]) rfl (by decide +kernel) (by kernel_rfl) rfl ?_
    rw [startE_eq 118 _ _ _ rfl rfl]
    simp only [go_sem, seval, Bool.not_true, Bool.not_false]
    refine call_of (hs) ?_
    simp only [go_sem, seval, Bool.not_true, Bool.not_false]
  | true =>
  cases bt with
  | false =>
    have hb : B = true := by rw [hdef]; simp
    rw [hb]
    simp only [if_true]
    refine good_run [] mixed Tryz.func88 rfl Tryz.ntmps88 (rs := [.tmp 4]) rfl (by decide +kernel) (by kernel_rfl) rfl ?_
    rw [startE_eq 118 _ _ _ rfl rfl]
    simp only [go_sem, seval, Bool.not_true, Bool.not_false]
    refine call_of (hs) ?_
    simp only [go_sem, seval, Bool.not_true, Bool.not_false]
    refine call_of (ht) ?_
    simp only [go_sem, seval, Bool.not_true, Bool.not_false]
  | true =>
  have hb : B = false := by rw [hdef]; simp
  rw [hb]
  simp only [Bool.false_eq_true, if_false]
  refine good_run [] mixed Tryz.func88 rfl Tryz.ntmps88 (rs := [.tmp 4]) rfl (by decide +kernel) (by kernel_rfl) rfl ?_
  rw [startE_eq 118 _ _ _ rfl rfl]
  simp only [go_sem, seval, Bool.not_true, Bool.not_false]
  refine call_of (hs) ?_
  simp only [go_sem, seval, Bool.not_true, Bool.not_false]
  refine call_of (ht) ?_
  simp only [go_sem, seval, Bool.not_true, Bool.not_false]
set_option maxHeartbeats 8000000 in
theorem fields_6 (c : Case) (hO : c.sec.objects.length ≤ 1000) (job src dst pointer object auth : Int) (data : ByteArray) (hd : data.size ≤ 1000000) : Ans Tryz.prog 88 [.agg (encCase c), .agg (encCOp ⟨6, job, src, dst, pointer, object, auth, data⟩)] (.int .i64 (if badF (cc c) ⟨6, job, src, dst, pointer, object, auth, data⟩ = true then 3 else 0)) := by
  generalize hB : badF (cc c) ⟨6, job, src, dst, pointer, object, auth, data⟩ = B
  have hdef : B = (!(isQ src) || !(isQ dst) || !(isQ pointer)) := by
    rw [← hB]
    simp [badF]
  clear hB
  have hs := isQ_good src
  have ht := isQ_good dst
  have hp := isQ_good pointer
  generalize isQ src = bs at hs hdef
  generalize isQ dst = bt at ht hdef
  generalize isQ pointer = bp at hp hdef
  cases bs with
  | false =>
    have hb : B = true := by rw [hdef]; simp
    rw [hb]
    simp only [if_true]
    refine good_run [] mixed Tryz.func88 rfl Tryz.ntmps88 (rs := [.tmp 4]) rfl (by decide +kernel) (by kernel_rfl) rfl ?_
    rw [startE_eq 118 _ _ _ rfl rfl]
    simp only [go_sem, seval, Bool.not_true, Bool.not_false]
    refine call_of (hs) ?_
    simp only [go_sem, seval, Bool.not_true, Bool.not_false]
  | true =>
  cases bt with
  | false =>
    have hb : B = true := by rw [hdef]; simp
    rw [hb]
    simp only [if_true]
    refine good_run [] mixed Tryz.func88 rfl Tryz.ntmps88 (rs := [.tmp 4]) rfl (by decide +kernel) (by kernel_rfl) rfl ?_
    rw [startE_eq 118 _ _ _ rfl rfl]
    simp only [go_sem, seval, Bool.not_true, Bool.not_false]
    refine call_of (hs) ?_
    simp only [go_sem, seval, Bool.not_true, Bool.not_false]
    refine call_of (ht) ?_
    simp only [go_sem, seval, Bool.not_true, Bool.not_false]
  | true =>
  cases bp with
  | false =>
    have hb : B = true := by rw [hdef]; simp
    rw [hb]
    simp only [if_true]
    refine good_run [] mixed Tryz.func88 rfl Tryz.ntmps88 (rs := [.tmp 4]) rfl (by decide +kernel) (by kernel_rfl) rfl ?_
    rw [startE_eq 118 _ _ _ rfl rfl]
    simp only [go_sem, seval, Bool.not_true, Bool.not_false]
    refine call_of (hs) ?_
    simp only [go_sem, seval, Bool.not_true, Bool.not_false]
    refine call_of (ht) ?_
    simp only [go_sem, seval, Bool.not_true, Bool.not_false]
    refine call_of (hp) ?_
    simp only [go_sem, seval, Bool.not_true, Bool.not_false]
  | true =>
  have hb : B = false := by rw [hdef]; simp
  rw [hb]
  simp only [Bool.false_eq_true, if_false]
  refine good_run [] mixed Tryz.func88 rfl Tryz.ntmps88 (rs := [.tmp 4]) rfl (by decide +kernel) (by kernel_rfl) rfl ?_
  rw [startE_eq 118 _ _ _ rfl rfl]
  simp only [go_sem, seval, Bool.not_true, Bool.not_false]
  refine call_of (hs) ?_
  simp only [go_sem, seval, Bool.not_true, Bool.not_false]
  refine call_of (ht) ?_
  simp only [go_sem, seval, Bool.not_true, Bool.not_false]
  refine call_of (hp) ?_
  simp only [go_sem, seval, Bool.not_true, Bool.not_false]
set_option maxHeartbeats 8000000 in
theorem fields_7 (c : Case) (hO : c.sec.objects.length ≤ 1000) (job src dst pointer object auth : Int) (data : ByteArray) (hd : data.size ≤ 1000000) : Ans Tryz.prog 88 [.agg (encCase c), .agg (encCOp ⟨7, job, src, dst, pointer, object, auth, data⟩)] (.int .i64 (if badF (cc c) ⟨7, job, src, dst, pointer, object, auth, data⟩ = true then 3 else 0)) := by
  generalize hB : badF (cc c) ⟨7, job, src, dst, pointer, object, auth, data⟩ = B
  have hdef : B = (!(isQ src) || !(isQ dst) || !(isQ pointer)) := by
    rw [← hB]
    simp [badF]
  clear hB
  have hs := isQ_good src
  have ht := isQ_good dst
  have hp := isQ_good pointer
  generalize isQ src = bs at hs hdef
  generalize isQ dst = bt at ht hdef
  generalize isQ pointer = bp at hp hdef
  cases bs with
  | false =>
    have hb : B = true := by rw [hdef]; simp
    rw [hb]
    simp only [if_true]
    refine good_run [] mixed Tryz.func88 rfl Tryz.ntmps88 (rs := [.tmp 4]) rfl (by decide +kernel) (by kernel_rfl) rfl ?_
    rw [startE_eq 118 _ _ _ rfl rfl]
    simp only [go_sem, seval, Bool.not_true, Bool.not_false]
    refine call_of (hs) ?_
    simp only [go_sem, seval, Bool.not_true, Bool.not_false]
  | true =>
  cases bt with
  | false =>
    have hb : B = true := by rw [hdef]; simp
    rw [hb]
    simp only [if_true]
    refine good_run [] mixed Tryz.func88 rfl Tryz.ntmps88 (rs := [.tmp 4]) rfl (by decide +kernel) (by kernel_rfl) rfl ?_
    rw [startE_eq 118 _ _ _ rfl rfl]
    simp only [go_sem, seval, Bool.not_true, Bool.not_false]
    refine call_of (hs) ?_
    simp only [go_sem, seval, Bool.not_true, Bool.not_false]
    refine call_of (ht) ?_
    simp only [go_sem, seval, Bool.not_true, Bool.not_false]
  | true =>
  cases bp with
  | false =>
    have hb : B = true := by rw [hdef]; simp
    rw [hb]
    simp only [if_true]
    refine good_run [] mixed Tryz.func88 rfl Tryz.ntmps88 (rs := [.tmp 4]) rfl (by decide +kernel) (by kernel_rfl) rfl ?_
    rw [startE_eq 118 _ _ _ rfl rfl]
    simp only [go_sem, seval, Bool.not_true, Bool.not_false]
    refine call_of (hs) ?_
    simp only [go_sem, seval, Bool.not_true, Bool.not_false]
    refine call_of (ht) ?_
    simp only [go_sem, seval, Bool.not_true, Bool.not_false]
    refine call_of (hp) ?_
    simp only [go_sem, seval, Bool.not_true, Bool.not_false]
  | true =>
  have hb : B = false := by rw [hdef]; simp
  rw [hb]
  simp only [Bool.false_eq_true, if_false]
  refine good_run [] mixed Tryz.func88 rfl Tryz.ntmps88 (rs := [.tmp 4]) rfl (by decide +kernel) (by kernel_rfl) rfl ?_
  rw [startE_eq 118 _ _ _ rfl rfl]
  simp only [go_sem, seval, Bool.not_true, Bool.not_false]
  refine call_of (hs) ?_
  simp only [go_sem, seval, Bool.not_true, Bool.not_false]
  refine call_of (ht) ?_
  simp only [go_sem, seval, Bool.not_true, Bool.not_false]
  refine call_of (hp) ?_
  simp only [go_sem, seval, Bool.not_true, Bool.not_false]
set_option maxHeartbeats 8000000 in
theorem fields_8 (c : Case) (hO : c.sec.objects.length ≤ 1000) (job src dst pointer object auth : Int) (data : ByteArray) (hd : data.size ≤ 1000000) : Ans Tryz.prog 88 [.agg (encCase c), .agg (encCOp ⟨8, job, src, dst, pointer, object, auth, data⟩)] (.int .i64 (if badF (cc c) ⟨8, job, src, dst, pointer, object, auth, data⟩ = true then 3 else 0)) := by
  generalize hB : badF (cc c) ⟨8, job, src, dst, pointer, object, auth, data⟩ = B
  have hdef : B = (!(isQ pointer) || !(inB dst 0 960) || decide ((data.size : Int) > 960 - dst)) := by
    rw [← hB, Bool.eq_iff_iff]
    simp [badF, isQ, inB]
    omega
  clear hB
  have hp := isQ_good pointer
  have hw := Within_good dst 0 960
  generalize isQ pointer = bp at hp hdef
  have hwr : inB dst 0 960 = true → 0 ≤ dst ∧ dst ≤ 960 := fun h => by unfold inB at h; exact of_decide_eq_true h
  generalize inB dst 0 960 = bw at hw hdef hwr
  cases bp with
  | false =>
    have hb : B = true := by rw [hdef]; simp
    rw [hb]
    simp only [if_true]
    refine good_run [] mixed Tryz.func88 rfl Tryz.ntmps88 (rs := [.tmp 4]) rfl (by decide +kernel) (by kernel_rfl) rfl ?_
    rw [startE_eq 118 _ _ _ rfl rfl]
    simp only [go_sem, seval, Bool.not_true, Bool.not_false]
    refine call_of (hp) ?_
    simp only [go_sem, seval, Bool.not_true, Bool.not_false]
  | true =>
  cases bw with
  | false =>
    have hb : B = true := by rw [hdef]; simp
    rw [hb]
    simp only [if_true]
    refine good_run [] mixed Tryz.func88 rfl Tryz.ntmps88 (rs := [.tmp 4]) rfl (by decide +kernel) (by kernel_rfl) rfl ?_
    rw [startE_eq 118 _ _ _ rfl rfl]
    simp only [go_sem, seval, Bool.not_true, Bool.not_false]
    refine call_of (hp) ?_
    simp only [go_sem, seval, Bool.not_true, Bool.not_false]
    refine call_of (hw) ?_
    simp only [go_sem, seval, Bool.not_true, Bool.not_false]
  | true =>
  have hr := hwr rfl
  have w3 : IntKind.wrap .i64 (960 - dst) = 960 - dst := wrap_i64 (by omega) (by omega)
  refine Classical.byCases (fun hz : (data.size : Int) > 960 - dst => ?_) fun hz => ?_
  · have hzt := eq_true hz
    have hb : B = true := by rw [hdef, decide_eq_true hz]; simp
    rw [hb]
    simp only [if_true]
    refine good_run [] mixed Tryz.func88 rfl Tryz.ntmps88 (rs := [.tmp 4]) rfl (by decide +kernel) (by kernel_rfl) rfl ?_
    rw [startE_eq 118 _ _ _ rfl rfl]
    simp only [go_sem, seval, Bool.not_true, Bool.not_false]
    refine call_of (hp) ?_
    simp only [go_sem, seval, Bool.not_true, Bool.not_false]
    refine call_of (hw) ?_
    simp only [go_sem, seval, Bool.not_true, Bool.not_false, w3, hzt, decide_true]
  · have hzt := eq_false hz
    have hb : B = false := by rw [hdef, decide_eq_false hz]; simp
    rw [hb]
    simp only [Bool.false_eq_true, if_false]
    refine good_run [] mixed Tryz.func88 rfl Tryz.ntmps88 (rs := [.tmp 4]) rfl (by decide +kernel) (by kernel_rfl) rfl ?_
    rw [startE_eq 118 _ _ _ rfl rfl]
    simp only [go_sem, seval, Bool.not_true, Bool.not_false]
    refine call_of (hp) ?_
    simp only [go_sem, seval, Bool.not_true, Bool.not_false]
    refine call_of (hw) ?_
    simp only [go_sem, seval, Bool.not_true, Bool.not_false, w3, hzt, decide_false]
theorem fields_good (c : Case) (hO : c.sec.objects.length ≤ 1000) (o : COp) (hk : 0 ≤ o.kind ∧ o.kind ≤ 8) (hd : o.data.size ≤ 1000000) : Ans Tryz.prog 88 [.agg (encCase c), .agg (encCOp o)] (.int .i64 (if badF (cc c) o = true then 3 else 0)) := by
  obtain ⟨kind, job, src, dst, pointer, object, auth, data⟩ := o
  simp only at hk hd
  have h : kind = 0 ∨ kind = 1 ∨ kind = 2 ∨ kind = 3 ∨ kind = 4 ∨ kind = 5 ∨ kind = 6 ∨ kind = 7 ∨ kind = 8 := by omega
  rcases h with rfl | rfl | rfl | rfl | rfl | rfl | rfl | rfl | rfl
  · exact fields_0 c hO job src dst pointer object auth data hd
  · exact fields_1 c hO job src dst pointer object auth data hd
  · exact fields_2 c hO job src dst pointer object auth data hd
  · exact fields_3 c hO job src dst pointer object auth data hd
  · exact fields_4 c hO job src dst pointer object auth data hd
  · exact fields_5 c hO job src dst pointer object auth data hd
  · exact fields_6 c hO job src dst pointer object auth data hd
  · exact fields_7 c hO job src dst pointer object auth data hd
  · exact fields_8 c hO job src dst pointer object auth data hd
end Go.Proofs.YtbhgehhmjpipiaaGreat.C12
namespace Go.Proofs.YtbhgehhmjpipiaaGreat.C12
open Go Go.Proofs Go.Proofs.YtbhgehhmjpipiaaGreat.Ab Go.Proofs.YtbhgehhmjpipiaaGreat.C10
set_option maxRecDepth 100000
set_option linter.unusedSimpArgs false
set_option linter.unusedVariables false
attribute [local congr] ite_ctx
structure StSz (s : St) : Prop where
  j : s.jobs.length ≤ 1000
  p : s.spaces.length ≤ 1000
  jt : ∀ x ∈ s.jobs, x.tags.length ≤ 1000 ∧ x.bytes.size = 16 * x.tags.length
  pt : ∀ x ∈ s.spaces, x.tags.length ≤ 1000 ∧ x.bytes.size = 16 * x.tags.length
set_option maxHeartbeats 16000000 in
theorem step0_good {c : Case} (h : Right c) (s : St) (hz : StSz s) (j k d : Nat) (hj : j < c.users.length) (hjs : j < s.jobs.length) (hk : k < c.sec.objects.length) (hd : d ≤ 59) (hdt : d < (nth s.jobs j).tags.length) (ha : ¬ auI c j k = 0) (har : 0 ≤ auI c j k ∧ auI c j k ≤ 1023) :
    Ans Tryz.prog 49 [.agg (encCase c), .agg (encSt s), .agg (encCOp ⟨0, (j : Int), 0, (d : Int), 0, (k : Int), 0, ⟨#[]⟩⟩)]
      (.tup [.agg (encSt ⟨s.jobs.set j (setQ (nth s.jobs j) d (ptrB ⟨1, (k : Int) + 1, 0, auI c j k⟩) true), s.spaces⟩), .int .i64 0]) := by
  have hJ := h.J
  have hO := h.O
  have hf := fields_good c (by omega) ⟨0, (j : Int), 0, (d : Int), 0, (k : Int), 0, ⟨#[]⟩⟩ (by simp only; omega) (by simp only; decide)
  have hb : badF (cc c) ⟨0, (j : Int), 0, (d : Int), 0, (k : Int), 0, ⟨#[]⟩⟩ = false := by
    have h1 : isQ (d : Int) = true := decide_eq_true (by omega)
    have h2 : ((cc c).O : Int) = (c.sec.objects.length : Int) := rfl
    simp [badF, h1, h2, hk]
  rw [hb, if_neg (by decide)] at hf
  have hw1 := Within_good 0 0 8
  rw [show inB 0 0 8 = true by decide] at hw1
  have hw2 := Within_good (j : Int) 0 ((c.users.length : Int) - 1)
  rw [show inB (j : Int) 0 ((c.users.length : Int) - 1) = true by unfold inB; exact decide_eq_true (by omega)] at hw2
  have w1 : IntKind.wrap .i64 ((c.users.length : Int) - 1) = (c.users.length : Int) - 1 := wrap_i64 (by omega) (by omega)
  have w2 : IntKind.wrap .i64 ((d : Int) * 16) = ((16 * d : Nat) : Int) := by rw [wrap_i64 (by omega) (by omega)]; omega
  have w3 : IntKind.wrap .i64 ((k : Int) + 1) = (k : Int) + 1 := wrap_i64 (by omega) (by omega)
  have ho := OwnStateM s hz.j hz.p (fun x hx => (hz.jt x hx).1) (fun x hx => (hz.pt x hx).1)
  have hA := rAuthority_good h hj hk
  have hjt := hz.jt _ (nth_mem hjs)
  have hS := Store_good (nth s.jobs j) d ⟨1, (k : Int) + 1, 0, auI c j k⟩ (ptrE_ok.2 ⟨by simp only; omega, by simp only; omega, by simp only; omega, har, .inl rfl⟩) hdt hjt.1 hjt.2
  have hse : encSt ⟨s.jobs.set j (setQ (nth s.jobs j) d (ptrB ⟨1, (k : Int) + 1, 0, auI c j k⟩) true), s.spaces⟩ = [.sl ((s.jobs.map encStg).set j (encStg (setQ (nth s.jobs j) d (ptrB ⟨1, (k : Int) + 1, 0, auI c j k⟩) true))), .sl (s.spaces.map encStg)] := by
    rw [← List.map_set]; rfl
  rw [hse]
  have hpe : encPtr ⟨1, (k : Int) + 1, 0, auI c j k⟩ = [.int .i64 1, .int .i64 ((k : Int) + 1), .int .i64 0, .int .i64 (auI c j k)] := rfl
  rw [hpe] at hS
  have hqj : (List.map encStg s.jobs)[j]? = some (encStg (nth s.jobs j)) := at_map hjs
  have hj2 : (j : Int) < (c.users.length : Int) := by omega
  have hjs2 : (j : Int) < (s.jobs.length : Int) := by omega
  have hat := eq_false ha
  generalize setQ (nth s.jobs j) d (ptrB ⟨1, (k : Int) + 1, 0, auI c j k⟩) true = X at hS
  generalize auI c j k = a at hA hS hat
  generalize ((16 * d : Nat) : Int) = dd at w2 hS
  refine good_run [] mixed Tryz.func49 rfl Tryz.ntmps49 (rs := [.cell 6 49, .tmp 7]) rfl (by decide +kernel) (by kernel_rfl) rfl ?_
  rw [startE_eq 120 _ _ _ rfl rfl]
  simp only [go_sem, seval]
  refine call_of (hw1) ?_
  simp only [go_sem, seval, Bool.not_true, w1]
  refine call_of (hw2) ?_
  simp only [go_sem, seval, Bool.not_true]
  refine call_of (hf) ?_
  simp only [go_sem, seval]
  refine callM_of [] [35, 36] (ho) ⟨rfl, rfl, rfl, by simp, by simp, by simp, by simp, rfl, rfl, rfl, onodup_of (l := [23, 41]) rfl (by decide)⟩ ?_
  simp only [go_sem, seval]
  simp only [go_sem, seval, hjs, hjs2, hj, hj2]
  refine callD_of (hA) ?_
  simp only [go_sem, seval]
  refine ⟨by decide +kernel, ?_⟩
  simp only [go_sem, seval, hat, decide_false, w2, w3, hjs, hjs2]
  refine callD_of (hS) ?_
  simp only [go_sem, seval, hjs, hjs2, hqj, Option.map_some, Int.toNat_natCast]
  decide +kernel
set_option maxHeartbeats 16000000 in
theorem step5_good {c : Case} (h : Right c) (s t : St) (hz : StSz s) (j : Nat) (src dst ptr object auth : Int) (data : ByteArray) (hd : data.size ≤ 1000000) (hj : j < c.users.length) (hjs : j < s.jobs.length) (hb : badF (cc c) ⟨5, (j : Int), src, dst, ptr, object, auth, data⟩ = false)
    (hby : AnsM Tryz.prog 92 166 [.obj 1 99 2 false true (s.jobs.map encStg), .obj 1 99 2 false true (s.spaces.map encStg)] [.agg (encCase c), .agg [.ref 166 1, .ref 167 1], .agg (encCOp ⟨5, (j : Int), src, dst, ptr, object, auth, data⟩)]
      (.tup [.agg [.ref 166 1, .ref 167 1], .int .i64 0]) [(166, .obj 1 99 2 false true (t.jobs.map encStg)), (167, .obj 1 99 2 false true (t.spaces.map encStg))]) :
    Ans Tryz.prog 49 [.agg (encCase c), .agg (encSt s), .agg (encCOp ⟨5, (j : Int), src, dst, ptr, object, auth, data⟩)] (.tup [.agg (encSt t), .int .i64 0]) := by
  have hJ := h.J
  have hO := h.O
  have hf := fields_good c (by omega) ⟨5, (j : Int), src, dst, ptr, object, auth, data⟩ (by simp only; decide) hd
  rw [hb, if_neg (by decide)] at hf
  have hw1 := Within_good 5 0 8
  rw [show inB 5 0 8 = true by decide] at hw1
  have hw2 := Within_good (j : Int) 0 ((c.users.length : Int) - 1)
  rw [show inB (j : Int) 0 ((c.users.length : Int) - 1) = true by unfold inB; exact decide_eq_true (by omega)] at hw2
  have w1 : IntKind.wrap .i64 ((c.users.length : Int) - 1) = (c.users.length : Int) - 1 := wrap_i64 (by omega) (by omega)
  have ho := OwnStateM s hz.j hz.p (fun x hx => (hz.jt x hx).1) (fun x hx => (hz.pt x hx).1)
  have hjs2 : (j : Int) < (s.jobs.length : Int) := by omega
  simp only [encCase, encCOp] at hby
  refine good_run [] mixed Tryz.func49 rfl Tryz.ntmps49 (rs := [.cell 6 49, .tmp 7]) rfl (by decide +kernel) (by kernel_rfl) rfl ?_
  rw [startE_eq 120 _ _ _ rfl rfl]
  simp only [go_sem, seval]
  refine call_of (hw1) ?_
  simp only [go_sem, seval, Bool.not_true, w1]
  refine call_of (hw2) ?_
  simp only [go_sem, seval, Bool.not_true]
  refine call_of (hf) ?_
  simp only [go_sem, seval]
  refine callM_of [] [35, 36] (ho) ⟨rfl, rfl, rfl, by simp, by simp, by simp, by simp, rfl, rfl, rfl, onodup_of (l := [23, 41]) rfl (by decide)⟩ ?_
  simp only [go_sem, seval]
  simp only [go_sem, seval, hjs, hjs2]
  refine callM_of [35, 36] [35, 36] (hby) ⟨by simp [renA, ren1, invM, posOf, verOf, AV.cellP, Env.go], rfl, rfl, by simp, by simp, by simp, by simp, rfl, rfl, rfl, onodup_of (l := [166, 167]) rfl (by decide)⟩ ?_
  simp only [go_sem, seval]
set_option maxHeartbeats 16000000 in
theorem step6_good {c : Case} (h : Right c) (s t : St) (hz : StSz s) (j : Nat) (src dst ptr object auth : Int) (data : ByteArray) (hd : data.size ≤ 1000000) (hj : j < c.users.length) (hjs : j < s.jobs.length) (hb : badF (cc c) ⟨6, (j : Int), src, dst, ptr, object, auth, data⟩ = false)
    (hby : AnsM Tryz.prog 92 166 [.obj 1 99 2 false true (s.jobs.map encStg), .obj 1 99 2 false true (s.spaces.map encStg)] [.agg (encCase c), .agg [.ref 166 1, .ref 167 1], .agg (encCOp ⟨6, (j : Int), src, dst, ptr, object, auth, data⟩)]
      (.tup [.agg [.ref 166 1, .ref 167 1], .int .i64 0]) [(166, .obj 1 99 2 false true (t.jobs.map encStg)), (167, .obj 1 99 2 false true (t.spaces.map encStg))]) :
    Ans Tryz.prog 49 [.agg (encCase c), .agg (encSt s), .agg (encCOp ⟨6, (j : Int), src, dst, ptr, object, auth, data⟩)] (.tup [.agg (encSt t), .int .i64 0]) := by
  have hJ := h.J
  have hO := h.O
  have hf := fields_good c (by omega) ⟨6, (j : Int), src, dst, ptr, object, auth, data⟩ (by simp only; decide) hd
  rw [hb, if_neg (by decide)] at hf
  have hw1 := Within_good 6 0 8
  rw [show inB 6 0 8 = true by decide] at hw1
  have hw2 := Within_good (j : Int) 0 ((c.users.length : Int) - 1)
  rw [show inB (j : Int) 0 ((c.users.length : Int) - 1) = true by unfold inB; exact decide_eq_true (by omega)] at hw2
  have w1 : IntKind.wrap .i64 ((c.users.length : Int) - 1) = (c.users.length : Int) - 1 := wrap_i64 (by omega) (by omega)
  have ho := OwnStateM s hz.j hz.p (fun x hx => (hz.jt x hx).1) (fun x hx => (hz.pt x hx).1)
  have hjs2 : (j : Int) < (s.jobs.length : Int) := by omega
  simp only [encCase, encCOp] at hby
  refine good_run [] mixed Tryz.func49 rfl Tryz.ntmps49 (rs := [.cell 6 49, .tmp 7]) rfl (by decide +kernel) (by kernel_rfl) rfl ?_
  rw [startE_eq 120 _ _ _ rfl rfl]
  simp only [go_sem, seval]
  refine call_of (hw1) ?_
  simp only [go_sem, seval, Bool.not_true, w1]
  refine call_of (hw2) ?_
  simp only [go_sem, seval, Bool.not_true]
  refine call_of (hf) ?_
  simp only [go_sem, seval]
  refine callM_of [] [35, 36] (ho) ⟨rfl, rfl, rfl, by simp, by simp, by simp, by simp, rfl, rfl, rfl, onodup_of (l := [23, 41]) rfl (by decide)⟩ ?_
  simp only [go_sem, seval]
  simp only [go_sem, seval, hjs, hjs2]
  refine callM_of [35, 36] [35, 36] (hby) ⟨by simp [renA, ren1, invM, posOf, verOf, AV.cellP, Env.go], rfl, rfl, by simp, by simp, by simp, by simp, rfl, rfl, rfl, onodup_of (l := [166, 167]) rfl (by decide)⟩ ?_
  simp only [go_sem, seval]
set_option maxHeartbeats 16000000 in
theorem step7_good {c : Case} (h : Right c) (s t : St) (hz : StSz s) (j : Nat) (src dst ptr object auth : Int) (data : ByteArray) (hd : data.size ≤ 1000000) (hj : j < c.users.length) (hjs : j < s.jobs.length) (hb : badF (cc c) ⟨7, (j : Int), src, dst, ptr, object, auth, data⟩ = false)
    (hby : AnsM Tryz.prog 92 166 [.obj 1 99 2 false true (s.jobs.map encStg), .obj 1 99 2 false true (s.spaces.map encStg)] [.agg (encCase c), .agg [.ref 166 1, .ref 167 1], .agg (encCOp ⟨7, (j : Int), src, dst, ptr, object, auth, data⟩)]
      (.tup [.agg [.ref 166 1, .ref 167 1], .int .i64 0]) [(166, .obj 1 99 2 false true (t.jobs.map encStg)), (167, .obj 1 99 2 false true (t.spaces.map encStg))]) :
    Ans Tryz.prog 49 [.agg (encCase c), .agg (encSt s), .agg (encCOp ⟨7, (j : Int), src, dst, ptr, object, auth, data⟩)] (.tup [.agg (encSt t), .int .i64 0]) := by
  have hJ := h.J
  have hO := h.O
  have hf := fields_good c (by omega) ⟨7, (j : Int), src, dst, ptr, object, auth, data⟩ (by simp only; decide) hd
  rw [hb, if_neg (by decide)] at hf
  have hw1 := Within_good 7 0 8
  rw [show inB 7 0 8 = true by decide] at hw1
  have hw2 := Within_good (j : Int) 0 ((c.users.length : Int) - 1)
  rw [show inB (j : Int) 0 ((c.users.length : Int) - 1) = true by unfold inB; exact decide_eq_true (by omega)] at hw2
  have w1 : IntKind.wrap .i64 ((c.users.length : Int) - 1) = (c.users.length : Int) - 1 := wrap_i64 (by omega) (by omega)
  have ho := OwnStateM s hz.j hz.p (fun x hx => (hz.jt x hx).1) (fun x hx => (hz.pt x hx).1)
  have hjs2 : (j : Int) < (s.jobs.length : Int) := by omega
  simp only [encCase, encCOp] at hby
  refine good_run [] mixed Tryz.func49 rfl Tryz.ntmps49 (rs := [.cell 6 49, .tmp 7]) rfl (by decide +kernel) (by kernel_rfl) rfl ?_
  rw [startE_eq 120 _ _ _ rfl rfl]
  simp only [go_sem, seval]
  refine call_of (hw1) ?_
  simp only [go_sem, seval, Bool.not_true, w1]
  refine call_of (hw2) ?_
  simp only [go_sem, seval, Bool.not_true]
  refine call_of (hf) ?_
  simp only [go_sem, seval]
  refine callM_of [] [35, 36] (ho) ⟨rfl, rfl, rfl, by simp, by simp, by simp, by simp, rfl, rfl, rfl, onodup_of (l := [23, 41]) rfl (by decide)⟩ ?_
  simp only [go_sem, seval]
  simp only [go_sem, seval, hjs, hjs2]
  refine callM_of [35, 36] [35, 36] (hby) ⟨by simp [renA, ren1, invM, posOf, verOf, AV.cellP, Env.go], rfl, rfl, by simp, by simp, by simp, by simp, rfl, rfl, rfl, onodup_of (l := [166, 167]) rfl (by decide)⟩ ?_
  simp only [go_sem, seval]
end Go.Proofs.YtbhgehhmjpipiaaGreat.C12
namespace Go.Proofs.YtbhgehhmjpipiaaGreat.C12
open Go Go.Proofs Go.Proofs.YtbhgehhmjpipiaaGreat.Ab Go.Proofs.YtbhgehhmjpipiaaGreat.C10
set_option maxRecDepth 100000
set_option linter.unusedSimpArgs false
set_option linter.unusedVariables false
attribute [local congr] ite_ctx
set_option maxHeartbeats 16000000 in
theorem by5_good {c : Case} (h : Right c) (s : St) (j src dst : Nat) (data : ByteArray) (hjs : j < s.jobs.length) (hj1 : s.jobs.length ≤ 1000) (hok : SOk (nth s.jobs j)) (hsrc : src < (nth s.jobs j).tags.length) (htag : nth (nth s.jobs j).tags src = true) (hdst : dst < (nth s.jobs j).tags.length)
    (p : Ptr) (hp : (ptrIn (quadB (nth s.jobs j).bytes src)).1 = p) (hk : p.kind = 1) (hsp : spB c (p.seg - 1) = true) (hi : incB p.auth 128 = true) :
    AnsM Tryz.prog 92 166 [.obj 1 99 2 false true (s.jobs.map encStg), .obj 1 99 2 false true (s.spaces.map encStg)] [.agg (encCase c), .agg [.ref 166 1, .ref 167 1], .agg (encCOp ⟨5, (j : Int), (src : Int), (dst : Int), 0, 0, 0, data⟩)]
      (.tup [.agg [.ref 166 1, .ref 167 1], .int .i64 0]) [(166, .obj 1 99 2 false true ((s.jobs.set j (setQ (nth s.jobs j) dst (ptrB ⟨0, p.seg, p.off, 0⟩) true)).map encStg)), (167, .obj 1 99 2 false true (s.spaces.map encStg))] := by
  have hz := hok.size
  have hm := hok.small
  have hL := rLoad_good (nth s.jobs j) hok src hsrc htag
  have hpe := ptrE_ok.1 (ptrIn_err (hok.ptr src hsrc htag))
  rw [hp] at hL hpe
  have hS := Store_good (nth s.jobs j) dst ⟨0, p.seg, p.off, 0⟩ (ptrE_ok.2 ⟨by simp only; omega, by simp only; omega, by simp only; omega, by simp only; omega, .inr rfl⟩) hdst (by omega) hz
  have hrg := spB_rng hsp
  have hI := IsSpace_good c (p.seg - 1) hrg
  rw [hsp] at hI
  have hN := Includes_good p.auth 128
  rw [hi] at hN
  have w1 : IntKind.wrap .i64 ((src : Int) * 16) = ((16 * src : Nat) : Int) := by rw [wrap_i64 (by omega) (by omega)]; omega
  have w2 : IntKind.wrap .i64 ((dst : Int) * 16) = ((16 * dst : Nat) : Int) := by rw [wrap_i64 (by omega) (by omega)]; omega
  have w3 : IntKind.wrap .i64 (p.seg - 1) = p.seg - 1 := wrap_i64 (by omega) (by omega)
  have hqj : (List.map encStg s.jobs)[j]? = some (encStg (nth s.jobs j)) := at_map hjs
  have hjs2 : (j : Int) < (s.jobs.length : Int) := by omega
  have hkt := eq_true hk
  have hpe2 : encPtr ⟨0, p.seg, p.off, 0⟩ = [.int .i64 0, .int .i64 p.seg, .int .i64 p.off, .int .i64 0] := rfl
  rw [hpe2] at hS
  have hset : (s.jobs.map encStg).set j (encStg (setQ (nth s.jobs j) dst (ptrB ⟨0, p.seg, p.off, 0⟩) true)) = (s.jobs.set j (setQ (nth s.jobs j) dst (ptrB ⟨0, p.seg, p.off, 0⟩) true)).map encStg := List.map_set.symm
  generalize setQ (nth s.jobs j) dst (ptrB ⟨0, p.seg, p.off, 0⟩) true = X at hS hset
  have hset2 : (s.jobs.map encStg).set j [.str X.bytes, .sl (X.tags.map encB)] = (s.jobs.set j X).map encStg := hset
  generalize ((16 * dst : Nat) : Int) = dd at w2 hS
  generalize ((16 * src : Nat) : Int) = ss at w1 hL
  refine goodM_run [] mixed Tryz.func92 rfl Tryz.ntmps92 (rs := [.cell 6 49, .tmp 7]) rfl (show wfCode 168 _ = true by decide +kernel) (by kernel_rfl) ?_
  rw [startM_eq 166 _ _ _ _ rfl rfl]
  simp only [go_sem, seval, hjs, hjs2, hqj, Option.map_some, w1]
  refine call_of (hL) ?_
  simp only [go_sem, seval, hkt, not_true_eq_false, decide_false, w3]
  refine call_of (hI) ?_
  simp only [go_sem, seval, Bool.not_true]
  refine call_of (hN) ?_
  simp only [go_sem, seval, Bool.not_true, w2, hjs, hjs2]
  refine callD_of (hS) ?_
  simp only [go_sem, seval, hjs, hjs2, hqj, Option.map_some, Int.toNat_natCast, hset2]
  refine ⟨by decide +kernel, ?_⟩
  simp
set_option maxHeartbeats 16000000 in
theorem by6_good {c : Case} (h : Right c) (s : St) (j src dst ptr : Nat) (data : ByteArray) (hjs : j < s.jobs.length) (hj1 : s.jobs.length ≤ 1000) (hs1 : s.spaces.length ≤ 1000) (hok : SOk (nth s.jobs j)) (hptr : ptr < (nth s.jobs j).tags.length) (htag : nth (nth s.jobs j).tags ptr = true)
    (p : Ptr) (hp : (ptrIn (quadB (nth s.jobs j).bytes ptr)).1 = p) (hk : p.kind = 1) (hsp : spB c (p.seg - 1) = true) (hi : incB p.auth 128 = true) (o : Nat) (ho : p.seg - 1 = (o : Int)) (hos : o < s.spaces.length) (hoz : (nth s.spaces o).bytes.size = 16 * (nth s.spaces o).tags.length) (hot : (nth s.spaces o).tags.length ≤ 1000)
    (hsrc : src < (nth s.jobs j).tags.length) (hdst : dst < (nth s.spaces o).tags.length) :
    AnsM Tryz.prog 92 166 [.obj 1 99 2 false true (s.jobs.map encStg), .obj 1 99 2 false true (s.spaces.map encStg)] [.agg (encCase c), .agg [.ref 166 1, .ref 167 1], .agg (encCOp ⟨6, (j : Int), (src : Int), (dst : Int), (ptr : Int), 0, 0, data⟩)]
      (.tup [.agg [.ref 166 1, .ref 167 1], .int .i64 0]) [(166, .obj 1 99 2 false true (s.jobs.map encStg)), (167, .obj 1 99 2 false true ((s.spaces.set o (setQ (nth s.spaces o) dst (quadB (nth s.jobs j).bytes src) (nth (nth s.jobs j).tags src))).map encStg))] := by
  have hz := hok.size
  have hm := hok.small
  have hL := rLoad_good (nth s.jobs j) hok ptr hptr htag
  rw [hp] at hL
  have hS := moved_good (nth s.jobs j) (nth s.spaces o) src dst hsrc hz (by omega) hdst hoz hot
  have hrg := spB_rng hsp
  have hI := IsSpace_good c (p.seg - 1) hrg
  rw [hsp, ho] at hI
  have hN := Includes_good p.auth 128
  rw [hi] at hN
  have w1 : IntKind.wrap .i64 ((ptr : Int) * 16) = ((16 * ptr : Nat) : Int) := by rw [wrap_i64 (by omega) (by omega)]; omega
  have w3 : IntKind.wrap .i64 (p.seg - 1) = (o : Int) := by rw [ho]; exact wrap_i64 (by omega) (by omega)
  have hqj : (List.map encStg s.jobs)[j]? = some (encStg (nth s.jobs j)) := at_map hjs
  have hqo : (List.map encStg s.spaces)[o]? = some (encStg (nth s.spaces o)) := at_map hos
  have hjs2 : (j : Int) < (s.jobs.length : Int) := by omega
  have hos2 : (o : Int) < (s.spaces.length : Int) := by omega
  have hkt := eq_true hk
  generalize setQ (nth s.spaces o) dst (quadB (nth s.jobs j).bytes src) (nth (nth s.jobs j).tags src) = X at hS
  have hset2 : (s.spaces.map encStg).set o [.str X.bytes, .sl (X.tags.map encB)] = (s.spaces.set o X).map encStg := List.map_set.symm
  generalize ((16 * ptr : Nat) : Int) = ss at w1 hL
  refine goodM_run [] mixed Tryz.func92 rfl Tryz.ntmps92 (rs := [.cell 6 49, .tmp 7]) rfl (show wfCode 168 _ = true by decide +kernel) (by kernel_rfl) ?_
  rw [startM_eq 166 _ _ _ _ rfl rfl]
  simp only [go_sem, seval, hjs, hjs2, hqj, Option.map_some, w1]
  refine call_of (hL) ?_
  simp only [go_sem, seval, hkt, not_true_eq_false, decide_false, w3]
  refine call_of (hI) ?_
  simp only [go_sem, seval, Bool.not_true]
  refine call_of (hN) ?_
  simp only [go_sem, seval, Bool.not_true, hos, hos2, hqo, Option.map_some, hjs, hjs2]
  refine callD_of (hS) ?_
  simp only [go_sem, seval, hjs, hjs2, hqj, hos, hos2, hqo, Option.map_some, Int.toNat_natCast, hset2]
  refine ⟨by decide +kernel, ?_⟩
  simp
set_option maxHeartbeats 16000000 in
theorem by7_good {c : Case} (h : Right c) (s : St) (j src dst ptr : Nat) (data : ByteArray) (hjs : j < s.jobs.length) (hj1 : s.jobs.length ≤ 1000) (hs1 : s.spaces.length ≤ 1000) (hok : SOk (nth s.jobs j)) (hptr : ptr < (nth s.jobs j).tags.length) (htag : nth (nth s.jobs j).tags ptr = true)
    (p : Ptr) (hp : (ptrIn (quadB (nth s.jobs j).bytes ptr)).1 = p) (hk : p.kind = 1) (hsp : spB c (p.seg - 1) = true) (hi : incB p.auth 32 = true) (o : Nat) (ho : p.seg - 1 = (o : Int)) (hos : o < s.spaces.length) (hoz : (nth s.spaces o).bytes.size = 16 * (nth s.spaces o).tags.length) (hot : (nth s.spaces o).tags.length ≤ 1000)
    (hsrc : src < (nth s.spaces o).tags.length) (hdst : dst < (nth s.jobs j).tags.length) :
    AnsM Tryz.prog 92 166 [.obj 1 99 2 false true (s.jobs.map encStg), .obj 1 99 2 false true (s.spaces.map encStg)] [.agg (encCase c), .agg [.ref 166 1, .ref 167 1], .agg (encCOp ⟨7, (j : Int), (src : Int), (dst : Int), (ptr : Int), 0, 0, data⟩)]
      (.tup [.agg [.ref 166 1, .ref 167 1], .int .i64 0]) [(166, .obj 1 99 2 false true ((s.jobs.set j (setQ (nth s.jobs j) dst (quadB (nth s.spaces o).bytes src) (nth (nth s.spaces o).tags src))).map encStg)), (167, .obj 1 99 2 false true (s.spaces.map encStg))] := by
  have hz := hok.size
  have hm := hok.small
  have hL := rLoad_good (nth s.jobs j) hok ptr hptr htag
  rw [hp] at hL
  have hS := moved_good (nth s.spaces o) (nth s.jobs j) src dst hsrc hoz hot hdst hz (by omega)
  have hrg := spB_rng hsp
  have hI := IsSpace_good c (p.seg - 1) hrg
  rw [hsp, ho] at hI
  have hN := Includes_good p.auth 32
  rw [hi] at hN
  have w1 : IntKind.wrap .i64 ((ptr : Int) * 16) = ((16 * ptr : Nat) : Int) := by rw [wrap_i64 (by omega) (by omega)]; omega
  have w3 : IntKind.wrap .i64 (p.seg - 1) = (o : Int) := by rw [ho]; exact wrap_i64 (by omega) (by omega)
  have hqj : (List.map encStg s.jobs)[j]? = some (encStg (nth s.jobs j)) := at_map hjs
  have hqo : (List.map encStg s.spaces)[o]? = some (encStg (nth s.spaces o)) := at_map hos
  have hjs2 : (j : Int) < (s.jobs.length : Int) := by omega
  have hos2 : (o : Int) < (s.spaces.length : Int) := by omega
  have hkt := eq_true hk
  generalize setQ (nth s.jobs j) dst (quadB (nth s.spaces o).bytes src) (nth (nth s.spaces o).tags src) = X at hS
  have hset2 : (s.jobs.map encStg).set j [.str X.bytes, .sl (X.tags.map encB)] = (s.jobs.set j X).map encStg := List.map_set.symm
  generalize ((16 * ptr : Nat) : Int) = ss at w1 hL
  refine goodM_run [] mixed Tryz.func92 rfl Tryz.ntmps92 (rs := [.cell 6 49, .tmp 7]) rfl (show wfCode 168 _ = true by decide +kernel) (by kernel_rfl) ?_
  rw [startM_eq 166 _ _ _ _ rfl rfl]
  simp only [go_sem, seval, hjs, hjs2, hqj, Option.map_some, w1]
  refine call_of (hL) ?_
  simp only [go_sem, seval, hkt, not_true_eq_false, decide_false, w3]
  refine call_of (hI) ?_
  simp only [go_sem, seval, Bool.not_true]
  refine call_of (hN) ?_
  simp only [go_sem, seval, Bool.not_true, hos, hos2, hqo, Option.map_some, hjs, hjs2]
  refine callD_of (hS) ?_
  simp only [go_sem, seval, hjs, hjs2, hqj, hos, hos2, hqo, Option.map_some, Int.toNat_natCast, hset2]
  refine ⟨by decide +kernel, ?_⟩
  simp
end Go.Proofs.YtbhgehhmjpipiaaGreat.C12
namespace Go.Proofs.YtbhgehhmjpipiaaGreat.C12
open Go Go.Proofs Go.Proofs.YtbhgehhmjpipiaaGreat.Ab Go.Proofs.YtbhgehhmjpipiaaGreat.C10
set_option linter.unusedSimpArgs false
set_option linter.unusedVariables false
theorem sok_v {s : Stg} {n : Nat} (h : s.Ok n) (hn : n ≤ 64) : SOk s :=
  ⟨by rw [h.size, h.tags], by rw [h.tags]; exact hn, fun k hk ht => h.ptr k (by have := h.tags; omega) ht⟩
theorem ok_size {s : Stg} {n : Nat} (h : s.Ok n) (hn : n ≤ 64) : s.tags.length ≤ 1000 ∧ s.bytes.size = 16 * s.tags.length := by
  have := sok_v h hn
  exact ⟨by have := this.small; omega, this.size⟩
theorem stSz_of {C : CC} {s : St} (hJ : C.J ≤ 3) (hO : C.O ≤ 5) (h : StV C s) : StSz s := by
  have h1 := h.nj
  have h2 := h.ns
  refine ⟨by omega, by omega, fun x hx => ?_, fun x hx => ?_⟩
  · obtain ⟨j, hj, rfl⟩ := List.mem_iff_getElem.1 hx
    have := (h.job j (by omega)).ok
    have e : s.jobs.getD j default = s.jobs[j] := by simp [List.getD_eq_getElem?_getD, hj]
    rw [e] at this
    exact ok_size this (by decide)
  · obtain ⟨j, hj, rfl⟩ := List.mem_iff_getElem.1 hx
    have := (h.sp j (by omega)).ok
    have e : s.spaces.getD j default = s.spaces[j] := by simp [List.getD_eq_getElem?_getD, hj]
    rw [e] at this
    exact ok_size this (by have := quads_le C j; omega)
end Go.Proofs.YtbhgehhmjpipiaaGreat.C12
namespace Go.Proofs.YtbhgehhmjpipiaaGreat.C12
open Go Go.Proofs Go.Proofs.YtbhgehhmjpipiaaGreat.Ab Go.Proofs.YtbhgehhmjpipiaaGreat.C10
set_option maxRecDepth 100000
set_option linter.unusedSimpArgs false
set_option linter.unusedVariables false
attribute [local congr] ite_ctx
theorem fewOps_yes (l : List COp) (hl : l.length ≤ 145) (hd : ∀ o ∈ l, o.data.size = 0) : Ans Tryz.prog 19 [.sl (l.map encCOp)] (.bool true) := by
  refine good_run [(2, [2, 4, 5, 6, 7, 8, 9, 10, 11, 12, 13, 14, 15, 16, 17, 18, 19, 20], [])] mixed Tryz.func19 rfl Tryz.ntmps19 (rs := [.tmp 2]) rfl (by decide +kernel) (by kernel_rfl) rfl ?_
  rw [startE_eq 24 _ _ _ rfl rfl]
  simp only [go_sem, seval]
  refine loop_by ([2, 4, 5, 6, 7, 8, 9, 10, 11, 12, 13, 14, 15, 16, 17, 18, 19, 20], []) (fun i : Nat => [(.s 3, .int .i64 (i : Int))]) (fun i => l.length - i) (fun i => i ≤ l.length) 0 rfl (Nat.zero_le _) rfl ?_
  rintro c' st' hst i hi ih
  simp only [go_sem, seval]
  refine ifI (fun hlt => ?_) fun hlt => ?_
  · have hlt' : i < l.length := by omega
    have h145 : ((i : Int) ≤ 145) = True := eq_true (by omega)
    have h0 := hd _ (nth_mem hlt')
    have h12 : (((nth l i).data.size : Int) > 1200) = False := eq_false (by omega)
    simp only [go_sem, seval, hlt, h145, decide_true, hlt', h12, decide_false]
    refine ih (i + 1) _ (by omega) (by omega) ?_
    simp only [go_sem, seval, wrap_succ (show i < 9223372036854775807 by omega)]
  · have hn2 : ((l.length : Int) ≤ 145) = True := eq_true (by omega)
    subst hst
    simp only [go_sem, seval, hlt, hn2, decide_true]
end Go.Proofs.YtbhgehhmjpipiaaGreat.C12
namespace Go.Proofs.YtbhgehhmjpipiaaGreat.C12
open Go Go.Proofs Go.Proofs.YtbhgehhmjpipiaaGreat.Ab Go.Proofs.YtbhgehhmjpipiaaGreat.C10
set_option maxRecDepth 100000
set_option linter.unusedSimpArgs false
set_option linter.unusedVariables false
attribute [local congr] ite_ctx
theorem zeros_snoc (i : Nat) : [AV.int .i64 0] :: List.map encInt (List.replicate i (0 : Int)) = List.map encInt (List.replicate i 0) ++ [[.int .i64 0]] := by
  rw [show [AV.int .i64 0] :: List.map encInt (List.replicate i (0 : Int)) = List.map encInt (List.replicate (i + 1) 0) from rfl, List.replicate_succ', List.map_append]; rfl
set_option maxHeartbeats 8000000 in
theorem Run_yes {c : Case} (h : Right c) (l : List COp) (hl : l.length ≤ 1000) (S : Nat → St) (h0 : S 0 = startS (cc c))
    (hst : ∀ i, i < l.length → Ans Tryz.prog 49 [.agg (encCase c), .agg (encSt (S i)), .agg (encCOp (nth l i))] (.tup [.agg (encSt (S (i + 1))), .int .i64 0])) :
    Ans Tryz.prog 20 [.agg (encCase c), .sl (l.map encCOp)] (.tup [.agg (encSt (S l.length)), .sl ((List.replicate l.length (0 : Int)).map encInt)]) := by
  have hS := rStart_good c h
  rw [← h0] at hS
  refine good_run [(4, [9, 10, 13, 14, 15, 16, 17, 18, 19, 20, 21, 22, 23, 24, 25, 26, 27, 28, 29, 30, 31, 32, 33, 34, 35], [9, 34, 1701003035])] mixed Tryz.func20 rfl Tryz.ntmps20 (rs := [.cell 4 49, .tmp 5]) rfl (by decide +kernel) (by kernel_rfl) rfl ?_
  rw [startE_eq 38 _ _ _ rfl rfl]
  simp only [go_sem, seval]
  refine call_of (hS) ?_
  simp only [go_sem, seval]
  refine loop_by ([9, 10, 13, 14, 15, 16, 17, 18, 19, 20, 21, 22, 23, 24, 25, 26, 27, 28, 29, 30, 31, 32, 33, 34, 35], [9, 34, 1701003035]) (fun i : Nat => [(.s 8, .int .i64 (i : Int)), (.o 6, .obj 1 49 2 false false [[.sl ((S i).jobs.map encStg), .sl ((S i).spaces.map encStg)]]), (.o 9, deadV i), (.o 34, deadV i), (.o 35, .obj (i + 1) 3 1 false true ((List.replicate i (0 : Int)).map encInt)), (.s 7, .ref 35 (i + 1))]) (fun i => l.length - i) (fun i => i ≤ l.length) 0 rfl (Nat.zero_le _) ?_ ?_
  · simp only [go_sem, seval]
  rintro c' st' hst2 i hi ih
  simp only [go_sem, seval]
  refine ifI (fun hlt => ?_) fun hlt => ?_
  · have hlt' : i < l.length := by omega
    have hs := hst i hlt'
    simp only [go_sem, seval, hlt, hlt']
    refine callD_of (hs) ?_
    simp only [go_sem, seval, List.length_replicate, show (i + 1) * 8 ≤ 140737488355328 by omega, show i + 1 ≤ maxLen by unfold maxLen; omega]
    refine ⟨by decide +kernel, ?_⟩
    refine ih (i + 1) _ (by omega) (by omega) ?_
    simp only [go_sem, seval, wrap_succ (show i < 9223372036854775807 by omega), zeros_snoc]
  · have hin : i = l.length := by omega
    subst hst2
    simp only [go_sem, seval, hlt]
    rw [hin]
    exact ⟨⟨rfl, rfl⟩, rfl⟩
end Go.Proofs.YtbhgehhmjpipiaaGreat.C12
namespace Go.Proofs.YtbhgehhmjpipiaaGreat.C12
open Go Go.Proofs Go.Proofs.YtbhgehhmjpipiaaGreat.Ab Go.Proofs.YtbhgehhmjpipiaaGreat.C10
set_option linter.unusedSimpArgs false
set_option linter.unusedVariables false
theorem goR {c : Case} (h : Right c) {s : St} (hv : StV (cc c) s) {d : Der} {n : Nat} (hn : n < 60) (hj : 0 ≤ d.cap.job ∧ d.cap.job < ((cc c).J : Int)) (ho : 0 ≤ d.cap.object ∧ d.cap.object < ((cc c).O : Int)) (ha : (cc c).au d.cap.job.toNat d.cap.object.toNat ≠ 0) :
    Ans Tryz.prog 49 [.agg (encCase c), .agg (encSt s), .agg (encCOp (opR d n))] (.tup [.agg (encSt (nextS (cc c) s (opR d n))), .int .i64 0]) := by
  have hst := nextS_ok (stepR (C := cc c) (s := s) hn hj ho ha)
  obtain ⟨j, hje⟩ : ∃ j : Nat, d.cap.job = (j : Int) := ⟨d.cap.job.toNat, by omega⟩
  obtain ⟨k, hke⟩ : ∃ k : Nat, d.cap.object = (k : Int) := ⟨d.cap.object.toNat, by omega⟩
  have e : opR d n = ⟨0, (j : Int), 0, (n : Int), 0, (k : Int), 0, ⟨#[]⟩⟩ := by unfold opR; rw [hje, hke]
  rw [hst, e, hje, hke]
  rw [hje, hke, Int.toNat_natCast, Int.toNat_natCast] at ha
  rw [hje] at hj
  rw [hke] at ho
  have hJ : (cc c).J = c.users.length := rfl
  have hO : (cc c).O = c.sec.objects.length := rfl
  have hjs := hv.nj
  have hjv := hv.job j (by omega)
  have hau := h.aut.au j k (by omega) (by omega)
  have hsz := stSz_of (by have := h.J; omega) (by have := h.O; omega) hv
  have htl : (nth s.jobs j).tags.length = 60 := hjv.ok.tags
  have hg := step0_good h s hsz j k n (by omega) (by omega) (by omega) (by omega) (by omega) ha hau
  exact hg
theorem view_some {s : Stg} {k : Nat} {p : Ptr} (h : s.view k = some p) : nth s.tags k = true ∧ (ptrIn (quadB s.bytes k)).1 = p := by
  have h' : (if nth s.tags k = true then some (ptrIn (quadB s.bytes k)).1 else none) = some p := h
  split at h'
  · rename_i q; exact ⟨q, by cases h'; rfl⟩
  · cases h'
theorem goA {c : Case} (h : Right c) {s : St} (hv : StV (cc c) s) {d : Der} {n : Nat} (hn : n < 60) (hj : 0 ≤ d.cap.job ∧ d.cap.job < ((cc c).J : Int)) (hs : 0 ≤ d.source ∧ d.source ≤ 59) {p : Ptr} (hw : s.jv d.cap.job.toNat d.source.toNat = some p) (hk : p.kind = 1) (hsp : (cc c).sp (p.seg - 1) = true) (hi : (cc c).inc p.auth 128 = true) :
    Ans Tryz.prog 49 [.agg (encCase c), .agg (encSt s), .agg (encCOp (opA d n))] (.tup [.agg (encSt (nextS (cc c) s (opA d n))), .int .i64 0]) := by
  have hst := nextS_ok (stepA (C := cc c) (s := s) hn hj hs hw hk hsp hi)
  obtain ⟨j, hje⟩ : ∃ j : Nat, d.cap.job = (j : Int) := ⟨d.cap.job.toNat, by omega⟩
  obtain ⟨m, hme⟩ : ∃ m : Nat, d.source = (m : Int) := ⟨d.source.toNat, by omega⟩
  have e : opA d n = ⟨5, (j : Int), (m : Int), (n : Int), 0, 0, 0, ⟨#[]⟩⟩ := by unfold opA; rw [hje, hme]
  rw [hst, e]
  rw [hje, hme, Int.toNat_natCast, Int.toNat_natCast] at hw
  rw [hje] at hj
  have hJ : (cc c).J = c.users.length := rfl
  have hjs := hv.nj
  have hjv := hv.job j (by omega)
  have hsz := stSz_of (by have := h.J; omega) (by have := h.O; exact this) hv
  have htl : (nth s.jobs j).tags.length = 60 := hjv.ok.tags
  have hok : SOk (nth s.jobs j) := ⟨by rw [htl]; exact hjv.ok.size, by omega, fun k hk2 ht => hjv.ok.ptr k (by omega) ht⟩
  obtain ⟨v1, v2⟩ := view_some (s := nth s.jobs j) (k := m) hw
  have hb : badF (cc c) ⟨5, (j : Int), (m : Int), (n : Int), 0, 0, 0, ⟨#[]⟩⟩ = false := by
    have h1 : isQ (n : Int) = true := decide_eq_true (by omega)
    have h2 : isQ (m : Int) = true := decide_eq_true (by omega)
    simp [badF, h1, h2]
  have hby := by5_good h s j m n ⟨#[]⟩ (by omega) hsz.j hok (by omega) v1 (by omega) p v2 hk hsp hi
  exact step5_good h s ⟨s.jobs.set j (setQ (nth s.jobs j) n (ptrB ⟨0, p.seg, p.off, 0⟩) true), s.spaces⟩ hsz j _ _ _ _ _ _ (by decide) (by omega) (by omega) hb hby
theorem goS {c : Case} (h : Right c) {s : St} (hv : StV (cc c) s) {d y : Der} {n : Nat} (hn : n < 60) (hj : 0 ≤ y.cap.job ∧ y.cap.job < ((cc c).J : Int)) (hsr : 0 ≤ d.source ∧ d.source ≤ 59) (hs : 0 ≤ d.writer ∧ d.writer ≤ 59) {p : Ptr} (hw : s.jv (y.cap.job).toNat d.writer.toNat = some p) (hk : p.kind = 1) (hsp : (cc c).sp (p.seg - 1) = true) (hi : (cc c).inc p.auth 128 = true) :
    Ans Tryz.prog 49 [.agg (encCase c), .agg (encSt s), .agg (encCOp (opS d y n))] (.tup [.agg (encSt (nextS (cc c) s (opS d y n))), .int .i64 0]) := by
  have hst := nextS_ok (stepSt (C := cc c) (s := s) hn hj hsr hs hw hk hsp hi)
  obtain ⟨j, hje⟩ : ∃ j : Nat, y.cap.job = (j : Int) := ⟨(y.cap.job).toNat, by omega⟩
  obtain ⟨q, hqe⟩ : ∃ m : Nat, d.writer = (m : Int) := ⟨d.writer.toNat, by omega⟩
  obtain ⟨m, hme⟩ : ∃ m : Nat, d.source = (m : Int) := ⟨(d.source).toNat, by omega⟩
  have hrg := spB_rng hsp
  obtain ⟨o, hoe⟩ : ∃ o : Nat, p.seg - 1 = (o : Int) := ⟨(p.seg - 1).toNat, by omega⟩
  have e : opS d y n = ⟨6, (j : Int), (m : Int), (n : Int), (q : Int), 0, 0, ⟨#[]⟩⟩ := by unfold opS; rw [hje, hqe, hme]
  rw [hst, e]
  rw [hje, hqe, Int.toNat_natCast, Int.toNat_natCast] at hw
  rw [hje] at hj
  have hJ : (cc c).J = c.users.length := rfl
  have hjs := hv.nj
  have hps := hv.ns
  have hO : (cc c).O = c.sec.objects.length := rfl
  have hjv := hv.job j (by omega)
  have hov := hv.sp o (by omega)
  have hq60 : quadsC (cc c) o = 60 := by unfold quadsC; rw [← hoe, if_pos hsp]
  rw [hq60] at hov
  have hsz := stSz_of (by have := h.J; omega) (by have := h.O; exact this) hv
  have htl : (nth s.jobs j).tags.length = 60 := hjv.ok.tags
  have htp : (nth s.spaces o).tags.length = 60 := hov.ok.tags
  have hok : SOk (nth s.jobs j) := ⟨by rw [htl]; exact hjv.ok.size, by omega, fun k hk2 ht => hjv.ok.ptr k (by omega) ht⟩
  obtain ⟨v1, v2⟩ := view_some (s := nth s.jobs j) (k := q) hw
  have hb : badF (cc c) ⟨6, (j : Int), (m : Int), (n : Int), (q : Int), 0, 0, ⟨#[]⟩⟩ = false := by
    have h1 : isQ (n : Int) = true := decide_eq_true (by omega)
    have h2 : isQ (m : Int) = true := decide_eq_true (by omega)
    have h3 : isQ (q : Int) = true := decide_eq_true (by omega)
    simp [badF, h1, h2, h3]
  have hby := by6_good h s j m n q ⟨#[]⟩ (by omega) hsz.j hsz.p hok (by omega) v1 p v2 hk hsp hi o hoe (by omega) (by rw [htp]; exact hov.ok.size) (by omega) (by omega) (by omega)
  have hE := step6_good h s ⟨s.jobs, s.spaces.set o (setQ (nth s.spaces o) n (quadB (nth s.jobs j).bytes m) (nth (nth s.jobs j).tags m))⟩ hsz j _ _ _ _ _ _ (by decide) (by omega) (by omega) hb hby
  rw [hoe, hme]
  exact hE
theorem goL {c : Case} (h : Right c) {s : St} (hv : StV (cc c) s) {d : Der} {n : Nat} (hn : n < 60) (hj : 0 ≤ d.cap.job ∧ d.cap.job < ((cc c).J : Int)) (hs : 0 ≤ d.reader ∧ d.reader ≤ 59) {p : Ptr} (hw : s.jv (d.cap.job).toNat d.reader.toNat = some p) (hk : p.kind = 1) (hsp : (cc c).sp (p.seg - 1) = true) (hi : (cc c).inc p.auth 32 = true) :
    Ans Tryz.prog 49 [.agg (encCase c), .agg (encSt s), .agg (encCOp (opL d n))] (.tup [.agg (encSt (nextS (cc c) s (opL d n))), .int .i64 0]) := by
  have hst := nextS_ok (stepL (C := cc c) (s := s) hn hj hs hw hk hsp hi)
  obtain ⟨j, hje⟩ : ∃ j : Nat, d.cap.job = (j : Int) := ⟨(d.cap.job).toNat, by omega⟩
  obtain ⟨q, hqe⟩ : ∃ m : Nat, d.reader = (m : Int) := ⟨d.reader.toNat, by omega⟩
  obtain ⟨m, hme⟩ : ∃ m : Nat, m = n := ⟨n, rfl⟩
  have hrg := spB_rng hsp
  obtain ⟨o, hoe⟩ : ∃ o : Nat, p.seg - 1 = (o : Int) := ⟨(p.seg - 1).toNat, by omega⟩
  have e : opL d n = ⟨7, (j : Int), (m : Int), (n : Int), (q : Int), 0, 0, ⟨#[]⟩⟩ := by unfold opL; rw [hje, hqe, hme]
  rw [hst, e]
  rw [hje, hqe, Int.toNat_natCast, Int.toNat_natCast] at hw
  rw [hje] at hj
  have hJ : (cc c).J = c.users.length := rfl
  have hjs := hv.nj
  have hps := hv.ns
  have hO : (cc c).O = c.sec.objects.length := rfl
  have hjv := hv.job j (by omega)
  have hov := hv.sp o (by omega)
  have hq60 : quadsC (cc c) o = 60 := by unfold quadsC; rw [← hoe, if_pos hsp]
  rw [hq60] at hov
  have hsz := stSz_of (by have := h.J; omega) (by have := h.O; exact this) hv
  have htl : (nth s.jobs j).tags.length = 60 := hjv.ok.tags
  have htp : (nth s.spaces o).tags.length = 60 := hov.ok.tags
  have hok : SOk (nth s.jobs j) := ⟨by rw [htl]; exact hjv.ok.size, by omega, fun k hk2 ht => hjv.ok.ptr k (by omega) ht⟩
  obtain ⟨v1, v2⟩ := view_some (s := nth s.jobs j) (k := q) hw
  have hb : badF (cc c) ⟨7, (j : Int), (m : Int), (n : Int), (q : Int), 0, 0, ⟨#[]⟩⟩ = false := by
    have h1 : isQ (n : Int) = true := decide_eq_true (by omega)
    have h2 : isQ (m : Int) = true := decide_eq_true (by omega)
    have h3 : isQ (q : Int) = true := decide_eq_true (by omega)
    simp [badF, h1, h2, h3]
  have hby := by7_good h s j m n q ⟨#[]⟩ (by omega) hsz.j hsz.p hok (by omega) v1 p v2 hk hsp hi o hoe (by omega) (by rw [htp]; exact hov.ok.size) (by omega) (by omega) (by omega)
  have hE := step7_good h s ⟨s.jobs.set j (setQ (nth s.jobs j) n (quadB (nth s.spaces o).bytes m) (nth (nth s.spaces o).tags m)), s.spaces⟩ hsz j _ _ _ _ _ _ (by decide) (by omega) (by omega) hb hby
  rw [hoe]
  subst hme
  exact hE
end Go.Proofs.YtbhgehhmjpipiaaGreat.C12
namespace Go.Proofs.YtbhgehhmjpipiaaGreat.C12
open Go Go.Proofs Go.Proofs.YtbhgehhmjpipiaaGreat.Ab Go.Proofs.YtbhgehhmjpipiaaGreat.C10
set_option maxRecDepth 100000
set_option linter.unusedSimpArgs false
set_option linter.unusedVariables false
attribute [local congr] ite_ctx
/-! ### What the operations of a witness find -/
inductive Prem (C : CC) (s : St) : COp → Prop
  | R (d : Der) (n : Nat) (hn : n < 60) (hj : 0 ≤ d.cap.job ∧ d.cap.job < (C.J : Int)) (ho : 0 ≤ d.cap.object ∧ d.cap.object < (C.O : Int)) (ha : C.au d.cap.job.toNat d.cap.object.toNat ≠ 0) : Prem C s (opR d n)
  | A (d : Der) (n : Nat) (hn : n < 60) (hj : 0 ≤ d.cap.job ∧ d.cap.job < (C.J : Int)) (hs : 0 ≤ d.source ∧ d.source ≤ 59) (p : Ptr) (hw : s.jv d.cap.job.toNat d.source.toNat = some p) (hk : p.kind = 1) (hsp : C.sp (p.seg - 1) = true) (hi : C.inc p.auth 128 = true) : Prem C s (opA d n)
  | S (d y : Der) (n : Nat) (hn : n < 60) (hj : 0 ≤ y.cap.job ∧ y.cap.job < (C.J : Int)) (hsr : 0 ≤ d.source ∧ d.source ≤ 59) (hs : 0 ≤ d.writer ∧ d.writer ≤ 59) (p : Ptr) (hw : s.jv y.cap.job.toNat d.writer.toNat = some p) (hk : p.kind = 1) (hsp : C.sp (p.seg - 1) = true) (hi : C.inc p.auth 128 = true) : Prem C s (opS d y n)
  | L (d : Der) (n : Nat) (hn : n < 60) (hj : 0 ≤ d.cap.job ∧ d.cap.job < (C.J : Int)) (hs : 0 ≤ d.reader ∧ d.reader ≤ 59) (p : Ptr) (hw : s.jv d.cap.job.toNat d.reader.toNat = some p) (hk : p.kind = 1) (hsp : C.sp (p.seg - 1) = true) (hi : C.inc p.auth 32 = true) : Prem C s (opL d n)
def Each (C : CC) : St → List COp → Prop
  | _, [] => True
  | s, o :: l => StV C s ∧ Prem C s o ∧ Each C (nextS C s o) l
theorem each_app {C : CC} : ∀ (l m : List COp) (s : St), Each C s l → Each C (runGo C s l) m → Each C s (l ++ m)
  | [], _, _, _, h => h
  | a :: l, m, s, h1, h2 => ⟨h1.1, h1.2.1, each_app l m (nextS C s a) h1.2.2 h2⟩
theorem each_get {C : CC} : ∀ (l : List COp) (s : St) (i : Nat), Each C s l → i < l.length → StV C (runGo C s (l.take i)) ∧ Prem C (runGo C s (l.take i)) (nth l i) ∧ runGo C s (l.take (i + 1)) = nextS C (runGo C s (l.take i)) (nth l i)
  | [], _, _, _, hi => absurd hi (Nat.not_lt_zero _)
  | a :: l, s, 0, h, _ => ⟨h.1, h.2.1, rfl⟩
  | a :: l, s, i + 1, h, hi => each_get l (nextS C s a) i h.2.2 (by simpa using hi)
theorem Step_prem {c : Case} (h : Right c) {s : St} (hv : StV (cc c) s) {o : COp} (hp : Prem (cc c) s o) :
    Ans Tryz.prog 49 [.agg (encCase c), .agg (encSt s), .agg (encCOp o)] (.tup [.agg (encSt (nextS (cc c) s o)), .int .i64 0]) := by
  cases hp with
  | R d n hn hj ho ha => exact goR h hv hn hj ho ha
  | A d n hn hj hs p hw hk hsp hi => exact goA h hv hn hj hs hw hk hsp hi
  | S d y n hn hj hsr hs p hw hk hsp hi => exact goS h hv hn hj hsr hs hw hk hsp hi
  | L d n hn hj hs p hw hk hsp hi => exact goL h hv hn hj hs hw hk hsp hi
theorem wit_each_step {C : CC} (hA : C.Aut) {l : List Der} (hO : DOk C l) (hl : l.length ≤ 60) {n : Nat} (hn : n < l.length) {s : St} (h : WInv C l n s) : Each C s (wOps l n (l.getD n default)) := by
  have hP := hO.proved n hn
  have hwv : ∀ k d, (l.take n)[k]? = some d → k < n ∧ s.jv d.cap.job.toNat k = some (capP d.cap) := fun k d hk => by
    obtain ⟨h1, h2⟩ := getD_take hk
    have := h.view k h1
    rw [h2] at this; exact ⟨h1, this⟩
  have hspx : ∀ x : Cap, C.chan x 128 = true ∨ C.chan x 32 = true → x.kind = 1 ∧ C.sp ((capP x).seg - 1) = true := fun x hx => by
    have e : (capP x).seg - 1 = x.object := by simp only [capP]; omega
    rw [e]
    unfold CC.chan at hx
    simp only [Bool.and_eq_true, decide_eq_true_eq] at hx
    rcases hx with ⟨⟨a, b⟩, c⟩ | ⟨⟨a, b⟩, c⟩
    · exact ⟨a, b⟩
    · exact ⟨a, b⟩
  have hinc : ∀ (x : Cap) m, C.chan x m = true → C.inc (capP x).auth m = true := fun x m hx => by
    unfold CC.chan at hx
    simp only [Bool.and_eq_true] at hx
    exact hx.2
  generalize hd : l.getD n default = d at hP
  rcases hP.how with ⟨k0, _, _, _, h1, h2, h3⟩ | ⟨k1, _, _, h1, h2, y, hs0, h3, h4, h5, h6⟩ | ⟨k2, y, w, r, hs0, hw0, hr0, h1, h2, h3, h4, h5, h6, h7, h8, h9, h10, h11, h12⟩
  · have e : wOps l n d = [opR d n] := by unfold wOps; rw [if_pos k0]
    rw [e]
    exact ⟨h.ok, .R d n (by omega) hP.job hP.object (by rw [← h3]; exact h2), trivial⟩
  · obtain ⟨hsn, hv⟩ := hwv _ _ h3
    rw [h4] at hv
    obtain ⟨hk, hsp⟩ := hspx _ (.inl h6)
    have e : wOps l n d = [opA d n] := by unfold wOps; rw [if_neg (by omega), if_pos k1]
    rw [e]
    exact ⟨h.ok, .A d n (by omega) hP.job (by omega) _ hv hk hsp (hinc _ _ h6), trivial⟩
  · obtain ⟨hsn, hv⟩ := hwv _ _ h1
    obtain ⟨hwn, hvw⟩ := hwv _ _ h2
    obtain ⟨hrn, hvr⟩ := hwv _ _ h3
    rw [h8] at hvw
    rw [h9] at hvr
    obtain ⟨hkw, hspw⟩ := hspx _ (.inl h11)
    obtain ⟨hkr, hspr⟩ := hspx _ (.inr h12)
    have hyd : l.getD d.source.toNat default = y := (getD_take h1).2
    have hyj : 0 ≤ y.cap.job ∧ y.cap.job < (C.J : Int) := (hO.drv C y (mem_get (by rw [List.getElem?_take] at h1; rwa [if_pos hsn] at h1))).2.1
    have hst := stepSt (C := C) (s := s) (d := d) (y := y) (n := n) (by omega) hyj (by omega) (by omega) hvw hkw hspw (hinc _ _ h11)
    have hok := step_ok hA h.ok (o := opS d y n) (by rw [hst])
    rw [hst] at hok
    have e : wOps l n d = [opS d y n, opL d n] := by unfold wOps; rw [if_neg (by omega), if_neg (by omega), hyd]
    rw [e]
    refine ⟨h.ok, .S d y n (by omega) hyj (by omega) (by omega) _ hvw hkw hspw (hinc _ _ h11), ?_, ?_, trivial⟩
    · rw [nextS_ok hst]; exact hok
    · rw [nextS_ok hst]
      exact .L d n (by omega) hP.job (by omega) _ hvr hkr hspr (hinc _ _ h12)
theorem wit_each {C : CC} (hA : C.Aut) {l : List Der} (hO : DOk C l) (hl : l.length ≤ 60) : ∀ n, n ≤ l.length → Each C (startS C) (opsN l n)
  | 0, _ => trivial
  | n + 1, hn => by
    have h1 := wit_each hA hO hl n (by omega)
    obtain ⟨h2, _⟩ := wit_run hA hO hl n (by omega)
    rw [opsN]
    exact each_app _ _ _ h1 (wit_each_step hA hO hl (by omega) h2)
/-- The reference's run of a witness. -/
theorem Run_wit {c : Case} (h : Right c) {n : Nat} (hn : n ≤ (derive (cc c)).length) :
    Ans Tryz.prog 20 [.agg (encCase c), .sl ((opsN (derive (cc c)) n).map encCOp)] (.tup [.agg (encSt (runGo (cc c) (startS (cc c)) (opsN (derive (cc c)) n))), .sl ((List.replicate (opsN (derive (cc c)) n).length (0 : Int)).map encInt)]) := by
  have hE := wit_each h.aut (derive_ok h) (derive_len h) n hn
  have hl := opsN_len (derive (cc c)) n
  have h60 := derive_len h
  generalize opsN (derive (cc c)) n = ops at hE hl
  have hr := Run_yes h ops (by omega) (fun i => runGo (cc c) (startS (cc c)) (ops.take i)) rfl (fun i hi => by
    obtain ⟨g1, g2, g3⟩ := each_get ops _ i hE hi
    have := Step_prem h g1 g2
    rw [← g3] at this
    exact this)
  simp only [List.take_length] at hr
  exact hr
/-! ### The law -/
theorem wIx_no {L : List Der} {x : Cap} (h : x ∉ L.map Der.cap) : ¬ 0 ≤ wIx L x := by
  intro h0
  have hany := findIx_any (fun y : Der => decide (y.cap = x)) L 0
  have : L.any (fun y : Der => decide (y.cap = x)) = true := by
    rw [← hany]
    exact decide_eq_true h0
  obtain ⟨y, hy, e⟩ := List.any_eq_true.1 this
  exact h (List.mem_map.2 ⟨y, hy, of_decide_eq_true e⟩)
theorem jobsOk_v {C : CC} {s : St} (hJ : C.J ≤ 3) (h : StV C s) : JobsOk s := by
  have h1 := h.nj
  refine ⟨by omega, fun x hx => ?_⟩
  obtain ⟨j, hj, rfl⟩ := List.mem_iff_getElem.1 hx
  have := (h.job j (by omega)).ok
  have e : s.jobs.getD j default = s.jobs[j] := by simp [List.getD_eq_getElem?_getD, hj]
  rw [e] at this
  exact sok_v this (by decide)
theorem zeros_nth {n i : Nat} (h : i < n) : nth (List.replicate n (0 : Int)) i = 0 := by
  rw [nth_eq (by simpa using h)]; simp
set_option maxHeartbeats 8000000 in
theorem PointerWitnesses_good (c : Case) (x : Cap) : Ans Tryz.prog 4 [.agg (encCase c), .agg (encCap x)] (.bool true) := by
  have haw := awake_good
  have hfw := few12_good c
  cases hf : few12 c with
  | false =>
    rw [hf] at hfw
    refine good_run [(15, [4, 65, 66, 67, 68, 69, 70, 71, 72, 73, 74, 75], [])] mixed Tryz.func4 rfl Tryz.ntmps4 (rs := [.tmp 4]) rfl (by decide +kernel) (by kernel_rfl) rfl ?_
    rw [startE_eq 80 _ _ _ rfl rfl]
    simp only [go_sem, seval]
    refine call_of (haw) ?_
    simp only [go_sem, seval, Bool.not_true]
    refine call_of (hfw) ?_
    simp only [go_sem, seval, Bool.not_true, Bool.not_false]
  | true =>
  rw [hf] at hfw
  obtain ⟨hs, hu⟩ := few12_fit hf
  have hown := Own12_good c hs (by omega)
  have herr := Err12_good c hs (by omega)
  refine Classical.byCases (fun he : (caseE c).2 = 0 => ?_) fun he => ?_
  case refine_2 =>
    have hW := Witness_no x hs (by omega) he
    generalize (caseE c).2 = e at hW herr he
    have het := eq_false he
    refine good_run [(15, [4, 65, 66, 67, 68, 69, 70, 71, 72, 73, 74, 75], [])] mixed Tryz.func4 rfl Tryz.ntmps4 (rs := [.tmp 4]) rfl (by decide +kernel) (by kernel_rfl) rfl ?_
    rw [startE_eq 80 _ _ _ rfl rfl]
    simp only [go_sem, seval]
    refine call_of (haw) ?_
    simp only [go_sem, seval, Bool.not_true]
    refine call_of (hfw) ?_
    simp only [go_sem, seval, Bool.not_true, Bool.not_false]
    refine callD_of (hown) ?_
    simp only [go_sem, seval]
    refine callD_of (hW) ?_
    simp only [go_sem, seval]
    refine ⟨by decide +kernel, ?_⟩
    refine call_of (herr) ?_
    simp only [go_sem, seval, het, not_false_eq_true, decide_true]
  have h := right_of hs he
  rw [he] at herr
  have hR := rClosure_good c h
  have hRl : (rClosure (cc c)).length ≤ 1000000 := by have := h.cfit.rlen (rClosure_done h.cfit).ok; omega
  have hH := Has_good (rClosure (cc c)) x hRl
  have hW := Witness_good h he x
  refine Classical.byCases (fun hm : x ∈ rClosure (cc c) => ?_) fun hm => ?_
  case refine_2 =>
    rw [decide_eq_false hm] at hH
    rw [if_neg (wIx_no fun q => hm ((rClosure_mem h x).2 q))] at hW
    generalize rClosure (cc c) = R at hR hH
    refine good_run [(15, [4, 65, 66, 67, 68, 69, 70, 71, 72, 73, 74, 75], [])] mixed Tryz.func4 rfl Tryz.ntmps4 (rs := [.tmp 4]) rfl (by decide +kernel) (by kernel_rfl) rfl ?_
    rw [startE_eq 80 _ _ _ rfl rfl]
    simp only [go_sem, seval]
    refine call_of (haw) ?_
    simp only [go_sem, seval, Bool.not_true]
    refine call_of (hfw) ?_
    simp only [go_sem, seval, Bool.not_true, Bool.not_false]
    refine callD_of (hown) ?_
    simp only [go_sem, seval]
    refine callD_of (hW) ?_
    simp only [go_sem, seval]
    refine ⟨by decide +kernel, ?_⟩
    refine call_of (herr) ?_
    simp only [go_sem, seval]
    refine callD_of (hR) ?_
    simp only [go_sem, seval]
    refine callD_of (hH) ?_
    simp only [go_sem, seval]
    refine ⟨by decide +kernel, ?_⟩
    simp only [go_sem, seval, Bool.not_false]
  rw [decide_eq_true hm] at hH
  have hx := wIx_mem ((rClosure_mem h x).1 hm)
  rw [if_pos hx.1] at hW
  obtain ⟨n, hn⟩ : ∃ n, (wIx (derive (cc c)) x).toNat = n := ⟨_, rfl⟩
  rw [hn] at hW hx
  have hRun := Run_wit h (n := n + 1) hx.2.1
  obtain ⟨hI, -⟩ := wit_run h.aut (derive_ok h) (derive_len h) (n + 1) hx.2.1
  have hJk := jobsOk_v (by have := h.J; exact this.2) hI.ok
  have hmem : x ∈ rHeld (runGo (cc c) (startS (cc c)) (opsN (derive (cc c)) (n + 1))) := by
    rw [rHeld_mem, hI.ok.nj]
    have := wit_holds h.aut (derive_ok h) (derive_len h) (n := n) hx.2.1
    rw [show (derive (cc c)).getD n default = nth (derive (cc c)) n from rfl, hx.2.2] at this
    exact this
  have hHeld := rHeld_good _ hJk
  have hH2 := Has_good _ x (held_len hJk)
  rw [decide_eq_true hmem] at hH2
  have hol := opsN_len (derive (cc c)) (n + 1)
  have hdl := derive_len h
  have hF := fewOps_yes (opsN (derive (cc c)) (n + 1)) (by omega) fun o ho => opsN_data _ o ho
  have hol2 : (opsN (derive (cc c)) (n + 1)).length ≤ 140 := by omega
  generalize rHeld (runGo (cc c) (startS (cc c)) (opsN (derive (cc c)) (n + 1))) = HL at hHeld hH2
  generalize runGo (cc c) (startS (cc c)) (opsN (derive (cc c)) (n + 1)) = S at hRun hHeld
  generalize opsN (derive (cc c)) (n + 1) = ops at hW hRun hF hol2
  generalize rClosure (cc c) = R at hR hH
  have h140 : ((ops.length : Int) > 140) = False := eq_false (by omega)
  refine good_run [(15, [4, 65, 66, 67, 68, 69, 70, 71, 72, 73, 74, 75], [])] mixed Tryz.func4 rfl Tryz.ntmps4 (rs := [.tmp 4]) rfl (by decide +kernel) (by kernel_rfl) rfl ?_
  rw [startE_eq 80 _ _ _ rfl rfl]
  simp only [go_sem, seval]
  refine call_of (haw) ?_
  simp only [go_sem, seval, Bool.not_true]
  refine call_of (hfw) ?_
  simp only [go_sem, seval, Bool.not_true, Bool.not_false]
  refine callD_of (hown) ?_
  simp only [go_sem, seval]
  refine callD_of (hW) ?_
  simp only [go_sem, seval]
  refine ⟨by decide +kernel, ?_⟩
  refine call_of (herr) ?_
  simp only [go_sem, seval]
  refine callD_of (hR) ?_
  simp only [go_sem, seval]
  refine callD_of (hH) ?_
  simp only [go_sem, seval]
  refine ⟨by decide +kernel, ?_⟩
  simp only [go_sem, seval, Bool.not_true, h140, decide_false]
  refine call_of (hF) ?_
  simp only [go_sem, seval, Bool.not_true]
  refine call_of (hRun) ?_
  simp only [go_sem, seval]
  refine loop_by ([4, 65, 66, 67, 68, 69, 70, 71, 72, 73, 74, 75], []) (fun i : Nat => [(.s 10, .int .i64 (i : Int))]) (fun i => ops.length - i) (fun i => i ≤ ops.length) 0 rfl (Nat.zero_le _) rfl ?_
  rintro c' st' hst i hi ih
  simp only [go_sem, seval]
  refine ifI (fun hlt => ?_) fun hlt => ?_
  · have hlt' : i < ops.length := by simpa using hlt
    simp only [go_sem, seval, hlt, List.length_replicate, hlt', zeros_nth hlt']
    refine ih (i + 1) _ (by omega) (by omega) ?_
    simp only [go_sem, seval, wrap_succ (show i < 9223372036854775807 by omega)]
  · subst hst
    simp only [go_sem, seval, hlt]
    refine callD_of (hHeld) ?_
    simp only [go_sem, seval]
    refine callD_of (hH2) ?_
    simp only [go_sem, seval]
    decide +kernel
end Go.Proofs.YtbhgehhmjpipiaaGreat.C12
