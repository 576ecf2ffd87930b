/- Chapter 12: what the reference writes: pointers as bytes, bytes in bytes, writes and stores. -/
import Derived.Test.YtbhgehhmjpipiaaGreatDoorP40
set_option linter.unusedSimpArgs false
set_option linter.unusedVariables false
namespace Go.Proofs.YtbhgehhmjpipiaaGreatDoor.C12
open Go Go.Proofs Go.Proofs.YtbhgehhmjpipiaaGreatDoor.Ab Go.Proofs.YtbhgehhmjpipiaaGreatDoor.C10
set_option maxRecDepth 100000
attribute [local congr] ite_ctx
set_option maxHeartbeats 4000000 in
theorem BigBytes_good (x : Int) (n : Nat) (hx : 0 ≤ x ∧ x < 9223372036854775808) (hn : n ≤ 8) : Ans Tryz.prog 138 [.int .i64 x, .int .i64 (n : Int)] (.str (ofL (bigB x n))) := by
 have b0 : (0 : Int) ≤ (n : Int) := by omega
 have b1 : (n : Int) ≤ 16777216 := by omega
 have b2 : n * 1 ≤ 140737488355328 := by omega
 have hz := zero_bytes n
 have hR0 : List.replicate n (0 : UInt8) = bigR x n 0 := by simp [bigR, bigB]
 refine good_run [(3, [9, 10, 11, 12, 13, 14, 15, 16, 17, 18, 19, 20, 21, 22, 23, 24], [])] mixed Tryz.func138 rfl Tryz.ntmps138 (rs := [.tmp 4]) rfl (by decide +kernel) (by kernel_rfl) rfl ?_
 rw [startE_eq 27 _ _ _ rfl rfl]
 simp only [go_sem, seval, b0, b1, b2, Int.toNat_natCast]
 rw [hz, hR0]
 refine loop_by ([9, 10, 11, 12, 13, 14, 15, 16, 17, 18, 19, 20, 21, 22, 23, 24], []) (fun i : Nat => [(.s 6, .int .i64 (i : Int)), (.s 0, .int .i64 (x / 256 ^ i)), (.o 8, .obj 1 5 1 false true ((bigR x n i).map encByte))]) (fun i => n - i) (fun i => i ≤ n) 0 rfl (Nat.zero_le _) ?_ ?_
 · simp only [go_sem, seval]
   simp
 rintro c' st' hst i hi ih
 simp only [go_sem, seval]
 refine ifI (fun hlt => ?_) fun hlt => ?_
 · have hxi : 0 ≤ x / 256 ^ i ∧ x / 256 ^ i < 9223372036854775808 := by
    have h1 : 0 ≤ x / 256 ^ i := Int.ediv_nonneg hx.1 (by exact Int.le_of_lt (Int.pow_pos (by decide)))
    have h2 : x / 256 ^ i ≤ x := Int.ediv_le_self _ hx.1
    omega
   have hstep := bigR_step (x := x) (n := n) (i := i) (by omega)
   have hlen : (bigR x n i).length = n := by unfold bigR; rw [List.length_append, List.length_replicate, bigB_len]; omega
   have hu := u8_wrap hxi.1
   have w1 : IntKind.wrap .i64 ((n : Int) - 1) = ((n - 1 : Nat) : Int) := by rw [wrap_i64 (by omega) (by omega)]; omega
   have w2 : IntKind.wrap .i64 (((n - 1 : Nat) : Int) - (i : Int)) = ((n - 1 - i : Nat) : Int) := by rw [wrap_i64 (by omega) (by omega)]; omega
   have hix : n - 1 - i < (bigR x n i).length := by omega
   have hix2 : ((n - 1 - i : Nat) : Int) < ((bigR x n i).length : Int) := by omega
   have hix0 : (0 : Int) ≤ ((n - 1 - i : Nat) : Int) := by omega
   have hq : (List.map encByte (bigR x n i))[n - 1 - i]? = some [.int .u8 ((nth (bigR x n i) (n - 1 - i)).toNat : Int)] := at_map hix
   have hd : IntKind.wrap .i64 (Int.tdiv (x / 256 ^ i) 256) = x / 256 ^ (i + 1) := by
    rw [Int.tdiv_eq_ediv_of_nonneg hxi.1, wrap_i64 (by omega) (by omega), Int.ediv_ediv_of_nonneg (Int.le_of_lt (Int.pow_pos (by decide))), ← Int.pow_succ]
   have hset : (List.map encByte (bigR x n i)).set (n - 1 - i) [.int .u8 ((UInt8.ofNat (x / 256 ^ i % 256).toNat).toNat : Int)] = List.map encByte (bigR x n (i + 1)) := by
    rw [← hstep, List.map_set]; rfl
   simp only [go_sem, seval, hlt, w1, w2, hix0, hix, hix2, hq, Option.map_some, Tryz.underlying3, Tryz.underlying5, hu, hset, hd, Int.toNat_natCast]
   refine ih (i + 1) _ (by omega) (by omega) ?_
   simp only [go_sem, seval, wrap_succ (show i < 9223372036854775807 by omega)]
 · have hin : i = n := by omega
   subst hst hin
   simp only [go_sem, seval, hlt]
   rw [show bigR x i i = bigB x i by simp [bigR]]
   rfl
theorem Bytes_good (p : Ptr) (hp : ptrE p = 0) : Ans Tryz.prog 104 [.agg (encPtr p)] (.str (ptrB p)) := by
 obtain ⟨h1, h2, h3, h4, h5⟩ := ptrE_ok.1 hp
 have hk := BigBytes_good p.kind 1 (by omega) (by decide)
 have ha := BigBytes_good p.auth 2 (by omega) (by decide)
 have hs := BigBytes_good p.seg 6 (by omega) (by decide)
 have ho := BigBytes_good p.off 6 (by omega) (by decide)
 have hkb : bigB p.kind 1 = [UInt8.ofNat p.kind.toNat] := by
  have : p.kind % 256 = p.kind := by omega
  simp [bigB, this]
 have hb : ofL (bigB p.kind 1) ++ (⟨#[0]⟩ : ByteArray) ++ ofL (bigB p.auth 2) ++ ofL (bigB p.seg 6) ++ ofL (bigB p.off 6) = ptrB p := by
  apply toL_inj
  rw [hkb]
  simp [toL_append, toL_ofL, ptrB, ptrL]
  rfl
 rw [← hb]
 have s1 : (ofL (bigB p.kind 1)).size = 1 := by rw [ofL_size, bigB_len]
 have s2 : (ofL (bigB p.auth 2)).size = 2 := by rw [ofL_size, bigB_len]
 have s3 : (ofL (bigB p.seg 6)).size = 6 := by rw [ofL_size, bigB_len]
 have s4 : (ofL (bigB p.off 6)).size = 6 := by rw [ofL_size, bigB_len]
 generalize ofL (bigB p.kind 1) = bk at hk s1
 generalize ofL (bigB p.auth 2) = ba at ha s2
 generalize ofL (bigB p.seg 6) = bs at hs s3
 generalize ofL (bigB p.off 6) = bo at ho s4
 have s0 : (⟨#[0]⟩ : ByteArray).size = 1 := rfl
 have t1 : ((bk.size + (#[(0 : UInt8)] : Array UInt8).size : Nat) : Int) ≤ 9223372036854775807 := by rw [s1]; decide
 have t2 : ((bk.size + (#[(0 : UInt8)] : Array UInt8).size + ba.size : Nat) : Int) ≤ 9223372036854775807 := by rw [s1, s2]; decide
 have t3 : ((bk.size + (#[(0 : UInt8)] : Array UInt8).size + ba.size + bs.size : Nat) : Int) ≤ 9223372036854775807 := by rw [s1, s2, s3]; decide
 have t4 : ((bk.size + (#[(0 : UInt8)] : Array UInt8).size + ba.size + bs.size + bo.size : Nat) : Int) ≤ 9223372036854775807 := by rw [s1, s2, s3, s4]; decide
 refine good_run [] mixed Tryz.func104 rfl Tryz.ntmps104 (rs := [.tmp 2]) rfl (by decide +kernel) (by kernel_rfl) rfl ?_
 rw [startE_eq 21 _ _ _ rfl rfl]
 simp only [go_sem, seval]
 refine callD_of (hk) ?_
 simp only [go_sem, seval, t1]
 refine callD_of (ha) ?_
 simp only [go_sem, seval, t2]
 refine callD_of (hs) ?_
 simp only [go_sem, seval, t3]
 refine callD_of (ho) ?_
 simp only [go_sem, seval, t4]
 decide +kernel
theorem Patched_good (b : ByteArray) (a : Nat) (d : ByteArray) (h : a + d.size ≤ b.size) (hb : b.size ≤ 1000000) : Ans Tryz.prog 105 [.str b, .int .i64 (a : Int), .str d] (.str (patch b a d)) := by
 have w1 : IntKind.wrap .i64 ((a : Int) + (d.size : Int)) = ((a + d.size : Nat) : Int) := by rw [wrap_i64 (by omega) (by omega)]; omega
 have c0 : (0 : Int) ≤ (a : Int) := by omega
 have c1 : (a : Int) ≤ (b.size : Int) := by omega
 have c2 : (0 : Int) ≤ ((a + d.size : Nat) : Int) := by omega
 have c3 : ((a + d.size : Nat) : Int) ≤ (b.size : Int) := by omega
 have hp : patch b a d = b.extract 0 a ++ d ++ b.extract (a + d.size) b.size := rfl
 rw [hp]
 have e1 : (b.extract 0 a).size = a := by rw [ByteArray.size_extract]; omega
 have e2 : (b.extract (a + d.size) b.size).size = b.size - (a + d.size) := by rw [ByteArray.size_extract]; omega
 have t1 : (((b.extract 0 a).size + d.size : Nat) : Int) ≤ 9223372036854775807 := by rw [e1]; omega
 have t2 : (((b.extract 0 a).size + d.size + (b.extract (a + d.size) b.size).size : Nat) : Int) ≤ 9223372036854775807 := by rw [e1, e2]; omega
 refine good_run [] mixed Tryz.func105 rfl Tryz.ntmps105 (rs := [.tmp 6]) rfl (by decide +kernel) (by kernel_rfl) rfl ?_
 rw [startE_eq 19 _ _ _ rfl rfl]
 simp only [go_sem, seval, w1, c0, c1, c2, c3, Int.toNat_natCast, t1, t2, Nat.le_refl, Int.le_refl]
 decide +kernel
set_option maxRecDepth 100000
theorem CopyBoolsM (l : List Bool) (h0 : 0 < l.length) (h : l.length ≤ 1000) : AnsM Tryz.prog 88 5 [] [.sl (l.map encB)] (.ref 4 1) [(4, .obj 1 4 1 false true (l.map encB))] := by
 have b0 : ¬ l.length = 0 := by omega
 have b1 : (0 + l.length) * 1 ≤ 140737488355328 := by omega
 have b2 : 0 + l.length ≤ maxLen := by unfold maxLen; omega
 have b3 : l.length * 1 ≤ 140737488355328 := by omega
 have b4 : l.length ≤ maxLen := by unfold maxLen; omega
 refine goodM_run [] mixed Tryz.func88 rfl Tryz.ntmps88 (rs := [.tmp 2]) rfl (by decide +kernel) (by kernel_rfl) ?_
 rw [startM_eq 5 _ _ _ _ rfl rfl]
 simp only [go_sem, seval, b0, b1, b2, b3, b4, h0]
 simp
theorem OwnStgM (x : Stg) (h0 : 0 < x.tags.length) (h : x.tags.length ≤ 1000) : AnsM Tryz.prog 45 9 [] [.agg (encStg x)] (.agg [.str x.bytes, .ref 7 1]) [(7, .obj 1 4 1 false true (x.tags.map encB))] := by
 have hc := CopyBoolsM x.tags h0 h
 refine goodM_run [] mixed Tryz.func45 rfl Tryz.ntmps45 (rs := [.cell 2 91]) rfl (by decide +kernel) (by kernel_rfl) ?_
 rw [startM_eq 9 _ _ _ _ rfl rfl]
 simp only [go_sem, seval]
 refine callMD_of [] [7] (hc) ⟨rfl, rfl, rfl, by simp, by simp, by simp, by simp, rfl, rfl, rfl, onodup_of (l := [4]) rfl (by decide)⟩ ?_
 simp only [go_sem, seval]
 refine ⟨by decide +kernel, ?_⟩
 simp
set_option maxHeartbeats 8000000 in
theorem WriteM (s : Stg) (a : Nat) (d : ByteArray) (h0 : 0 < s.tags.length) (ht : s.tags.length ≤ 1000) (hs : s.bytes.size = 16 * s.tags.length) (h : a + d.size ≤ s.bytes.size) :
 AnsM Tryz.prog 57 31 [] [.agg (encStg s), .int .i64 (a : Int), .str d] (.agg [.str (patch s.bytes a d), .ref 10 1]) [(10, .obj 1 4 1 false true ((clearT s.tags a d.size).map encB))] := by
 have ho := OwnStgM s h0 ht
 have hp := Patched_good s.bytes a d h (by omega)
 have hz := clearT_zero s.tags a
 generalize patch s.bytes a d = pb at hp
 refine goodM_run [(4, [17, 18, 19, 20, 21, 22, 23, 24, 25, 26, 27, 28, 29], [])] mixed Tryz.func57 rfl Tryz.ntmps57 (rs := [.cell 6 91]) rfl (by decide +kernel) (by kernel_rfl) ?_
 rw [startM_eq 31 _ _ _ _ rfl rfl]
 simp only [go_sem, seval]
 refine callM_of [] [10] (ho) ⟨rfl, rfl, rfl, by simp, by simp, by simp, by simp, rfl, rfl, rfl, onodup_of (l := [7]) rfl (by decide)⟩ ?_
 simp only [go_sem, seval]
 refine call_of (hp) ?_
 simp only [go_sem, seval]
 refine loop_by ([17, 18, 19, 20, 21, 22, 23, 24, 25, 26, 27, 28, 29], []) (fun i : Nat => [(.s 8, .int .i64 (i : Int)), (.o 10, .obj 1 4 1 false true ((clearT s.tags a i).map encB))]) (fun i => d.size - i) (fun i => i ≤ d.size) 0 rfl (Nat.zero_le _) ?_ ?_
 · simp only [go_sem, seval, hz]
 rintro c' st' hst i hi ih
 simp only [go_sem, seval]
 refine ifI (fun hlt => ?_) fun hlt => ?_
 · have w1 : IntKind.wrap .i64 ((a : Int) + (i : Int)) = ((a + i : Nat) : Int) := by rw [wrap_i64 (by omega) (by omega)]; omega
   have w2 : IntKind.wrap .i64 (Int.tdiv ((a + i : Nat) : Int) 16) = (((a + i) / 16 : Nat) : Int) := by rw [Int.tdiv_eq_ediv_of_nonneg (by omega), wrap_i64 (by omega) (by omega)]; omega
   have hix : (a + i) / 16 < s.tags.length := by omega
   have hcl := clearT_len s.tags a i
   have hst := clearT_step (l := s.tags) (a := a) (i := i) hix
   have hix1 : (a + i) / 16 < (clearT s.tags a i).length := by omega
   have hix2 : (((a + i) / 16 : Nat) : Int) < ((clearT s.tags a i).length : Int) := by omega
   have hix0 : (0 : Int) ≤ (((a + i) / 16 : Nat) : Int) := by omega
   have hq : (List.map encB (clearT s.tags a i))[(a + i) / 16]? = some [.bool (nth (clearT s.tags a i) ((a + i) / 16))] := at_map hix1
   have hset : (List.map encB (clearT s.tags a i)).set ((a + i) / 16) [.bool false] = List.map encB (clearT s.tags a (i + 1)) := by
    rw [← hst, List.map_set]; rfl
   generalize (a + i) / 16 = ix at w2 hix hix1 hix2 hix0 hq hset hst
   simp only [go_sem, seval, hlt, w1, w2, hix0, hix1, hix2, hq, Option.map_some, hset, Int.toNat_natCast]
   refine ih (i + 1) _ (by omega) (by omega) ?_
   simp only [go_sem, seval, wrap_succ (show i < 9223372036854775807 by omega)]
 · have hin : i = d.size := by omega
   subst hst
   simp only [go_sem, seval, hlt]
   rw [hin]
   simp
theorem WriteQ (s : Stg) (k : Nat) (q : ByteArray) (hq : q.size = 16) (hk : k < s.tags.length) (ht : s.tags.length ≤ 1000) (hs : s.bytes.size = 16 * s.tags.length) :
 AnsM Tryz.prog 57 31 [] [.agg (encStg s), .int .i64 ((16 * k : Nat) : Int), .str q] (.agg [.str (patch s.bytes (16 * k) q), .ref 10 1]) [(10, .obj 1 4 1 false true ((s.tags.set k false).map encB))] := by
 have h := WriteM s (16 * k) q (by omega) ht hs (by omega)
 rw [hq, clearT_quad] at h
 exact h
set_option maxHeartbeats 4000000 in
theorem Store_good (s : Stg) (k : Nat) (p : Ptr) (hp : ptrE p = 0) (hk : k < s.tags.length) (ht : s.tags.length ≤ 1000) (hs : s.bytes.size = 16 * s.tags.length) :
 Ans Tryz.prog 56 [.agg (encStg s), .int .i64 ((16 * k : Nat) : Int), .agg (encPtr p)] (.agg (encStg (setQ s k (ptrB p) true))) := by
 have hb := Bytes_good p hp
 have hw := WriteQ s k (ptrB p) (ptrB_size p) hk ht hs
 have hse : encStg (setQ s k (ptrB p) true) = [.str (patch s.bytes (16 * k) (ptrB p)), .sl ((s.tags.set k true).map encB)] := rfl
 rw [hse]
 have d1 : IntKind.wrap .i64 (Int.tdiv ((16 * k : Nat) : Int) 16) = (k : Int) := by rw [Int.tdiv_eq_ediv_of_nonneg (by omega), wrap_i64 (by omega) (by omega)]; omega
 have hix1 : k < (s.tags.set k false).length := by rw [List.length_set]; exact hk
 have hix2 : (k : Int) < ((s.tags.set k false).length : Int) := by omega
 have hq : (List.map encB (s.tags.set k false))[k]? = some [.bool (nth (s.tags.set k false) k)] := at_map hix1
 have hset : (List.map encB (s.tags.set k false)).set k [.bool true] = List.map encB (s.tags.set k true) := by
  rw [show [AV.bool true] = encB true from rfl, ← List.map_set, List.set_set]
 generalize ((16 * k : Nat) : Int) = a at hw d1
 generalize patch s.bytes (16 * k) (ptrB p) = pb at hw
 generalize ptrB p = bb at hb hw
 refine good_run [] mixed Tryz.func56 rfl Tryz.ntmps56 (rs := [.cell 6 91]) rfl (by decide +kernel) (by kernel_rfl) rfl ?_
 rw [startE_eq 19 _ _ _ rfl rfl]
 simp only [go_sem, seval]
 refine callD_of (hb) ?_
 simp only [go_sem, seval]
 refine callMD_of [] [12] (hw) ⟨rfl, rfl, rfl, by simp, by simp, by simp, by simp, rfl, rfl, rfl, onodup_of (l := [10]) rfl (by decide)⟩ ?_
 simp only [go_sem, seval]
 refine ⟨by decide +kernel, ?_⟩
 simp only [go_sem, seval, d1, hix1, hix2, hq, Option.map_some, hset, Int.toNat_natCast]
set_option maxHeartbeats 4000000 in
theorem moved_good (x y : Stg) (i j : Nat) (hi : i < x.tags.length) (hx : x.bytes.size = 16 * x.tags.length) (hxt : x.tags.length ≤ 1000) (hj : j < y.tags.length) (hy : y.bytes.size = 16 * y.tags.length) (hyt : y.tags.length ≤ 1000) :
 Ans Tryz.prog 106 [.agg (encStg x), .int .i64 (i : Int), .agg (encStg y), .int .i64 (j : Int)] (.agg (encStg (setQ y j (quadB x.bytes i) (nth x.tags i)))) := by
 have hw := WriteQ y j (quadB x.bytes i) (quadB_size (by omega)) hj hyt hy
 have hse : encStg (setQ y j (quadB x.bytes i) (nth x.tags i)) = [.str (patch y.bytes (16 * j) (quadB x.bytes i)), .sl ((y.tags.set j (nth x.tags i)).map encB)] := rfl
 rw [hse]
 have w0 : IntKind.wrap .i64 ((j : Int) * 16) = ((16 * j : Nat) : Int) := by rw [wrap_i64 (by omega) (by omega)]; omega
 have w1 : IntKind.wrap .i64 ((i : Int) * 16) = ((16 * i : Nat) : Int) := by rw [wrap_i64 (by omega) (by omega)]; omega
 have w2 : IntKind.wrap .i64 (((16 * i : Nat) : Int) + 16) = ((16 * i + 16 : Nat) : Int) := by rw [wrap_i64 (by omega) (by omega)]; omega
 have c0 : (0 : Int) ≤ ((16 * i : Nat) : Int) := by omega
 have c1 : ((16 * i : Nat) : Int) ≤ ((16 * i + 16 : Nat) : Int) := by omega
 have c2 : ((16 * i + 16 : Nat) : Int) ≤ (x.bytes.size : Int) := by omega
 have hqe : x.bytes.extract (16 * i) (16 * i + 16) = quadB x.bytes i := rfl
 have hi2 : (i : Int) < (x.tags.length : Int) := by omega
 have hix1 : j < (y.tags.set j false).length := by rw [List.length_set]; exact hj
 have hix2 : (j : Int) < ((y.tags.set j false).length : Int) := by omega
 have hq : (List.map encB (y.tags.set j false))[j]? = some [.bool (nth (y.tags.set j false) j)] := at_map hix1
 have hset : (List.map encB (y.tags.set j false)).set j [.bool (nth x.tags i)] = List.map encB (y.tags.set j (nth x.tags i)) := by
  rw [show [AV.bool (nth x.tags i)] = encB (nth x.tags i) from rfl, ← List.map_set, List.set_set]
 generalize patch y.bytes (16 * j) (quadB x.bytes i) = pb at hw
 refine good_run [] mixed Tryz.func106 rfl Tryz.ntmps106 (rs := [.cell 8 91]) rfl (by decide +kernel) (by kernel_rfl) rfl ?_
 rw [startE_eq 32 _ _ _ rfl rfl]
 simp only [go_sem, seval, w0, w1, w2, c0, c1, c2, hqe, Int.toNat_natCast]
 refine callMD_of [] [21] (hw) ⟨rfl, rfl, rfl, by simp, by simp, by simp, by simp, rfl, rfl, rfl, onodup_of (l := [10]) rfl (by decide)⟩ ?_
 simp only [go_sem, seval]
 refine ⟨by decide +kernel, ?_⟩
 simp only [go_sem, seval, hi, hi2, hix1, hix2, hq, Option.map_some, hset, Int.toNat_natCast]
 decide +kernel
set_option maxRecDepth 100000
set_option maxHeartbeats 4000000 in
theorem OwnStateM (s : St) (h1 : s.jobs.length ≤ 1000) (h2 : s.spaces.length ≤ 1000) (h3 : ∀ x ∈ s.jobs, x.tags.length ≤ 1000) (h4 : ∀ x ∈ s.spaces, x.tags.length ≤ 1000) : AnsM Tryz.prog 17 44 [] [.agg (encSt s)] (.agg [.ref 23 (s.jobs.length + 1), .ref 41 (s.spaces.length + 1)])
 [(23, .obj (s.jobs.length + 1) 91 2 false true (s.jobs.map encStg)), (41, .obj (s.spaces.length + 1) 91 2 false true (s.spaces.map encStg))] := by
 refine goodM_run [(7, [25, 26, 27, 28, 29, 30, 31, 32, 33, 34, 35, 36, 37, 38, 39, 40, 41, 42], [40, 201302091041]), (3, [7, 8, 9, 10, 11, 12, 13, 14, 15, 16, 17, 18, 19, 20, 21, 22, 23, 24], [22, 101302091023])] mixed Tryz.func17 rfl Tryz.ntmps17 (rs := [.cell 2 37]) rfl (by decide +kernel) (by kernel_rfl) ?_
 rw [startM_eq 44 _ _ _ _ rfl rfl]
 simp only [go_sem, seval]
 refine loop_by ([7, 8, 9, 10, 11, 12, 13, 14, 15, 16, 17, 18, 19, 20, 21, 22, 23, 24], [22, 101302091023]) (fun i : Nat => [(.s 4, .int .i64 (i : Int)), (.o 22, deadV i), (.o 23, .obj (i + 1) 91 2 false true ((s.jobs.take i).map encStg)), (.o 3, .obj 1 37 2 false false [[.ref 23 (i + 1), .nils]])]) (fun i => s.jobs.length - i) (fun i => i ≤ s.jobs.length) 0 rfl (Nat.zero_le _) ?_ ?_
 · simp only [go_sem, seval]
 rintro c' st' hst i0 hi ih
 simp only [go_sem, seval]
 refine ifI (fun hlt => ?_) fun hlt => ?_
 · have hlt' : i0 < s.jobs.length := by omega
   have hl : (List.take i0 s.jobs).length ≤ 1000 := by rw [List.length_take]; omega
   have ho := OwnStg_good (nth s.jobs i0) (h3 _ (nth_mem hlt'))
   have hr := row_snoc (f := encStg) hlt'
   simp only [encStg] at hr
   simp only [go_sem, seval, hlt, hlt']
   refine callD_of (ho) ?_
   simp only [go_sem, seval, show ((List.take i0 s.jobs).length + 1) * 40 ≤ 140737488355328 by omega, show (List.take i0 s.jobs).length + 1 ≤ maxLen by unfold maxLen; omega]
   refine ⟨by decide +kernel, ?_⟩
   refine ih (i0 + 1) _ (by omega) (by omega) ?_
   simp only [go_sem, seval, wrap_succ (show i0 < 9223372036854775807 by omega), hr]
 have hn1 : s.jobs.length ≤ i0 := by omega
 have hz1 : i0 = s.jobs.length := by omega
 subst hst
 clear ih hi
 simp only [go_sem, seval, hlt, List.take_of_length_le hn1]
 refine loop_by ([25, 26, 27, 28, 29, 30, 31, 32, 33, 34, 35, 36, 37, 38, 39, 40, 41, 42], [40, 201302091041]) (fun i : Nat => [(.s 5, .int .i64 (i : Int)), (.o 40, deadV i), (.o 41, .obj (i + 1) 91 2 false true ((s.spaces.take i).map encStg)), (.o 3, .obj 1 37 2 false false [[.ref 23 (i0 + 1), .ref 41 (i + 1)]])]) (fun i => s.spaces.length - i) (fun i => i ≤ s.spaces.length) 0 rfl (Nat.zero_le _) ?_ ?_
 · simp only [go_sem, seval]
 rintro c' st' hst i1 hi ih
 simp only [go_sem, seval]
 refine ifI (fun hlt => ?_) fun hlt => ?_
 · have hlt' : i1 < s.spaces.length := by omega
   have hl : (List.take i1 s.spaces).length ≤ 1000 := by rw [List.length_take]; omega
   have ho := OwnStg_good (nth s.spaces i1) (h4 _ (nth_mem hlt'))
   have hr := row_snoc (f := encStg) hlt'
   simp only [encStg] at hr
   simp only [go_sem, seval, hlt, hlt']
   refine callD_of (ho) ?_
   simp only [go_sem, seval, show ((List.take i1 s.spaces).length + 1) * 40 ≤ 140737488355328 by omega, show (List.take i1 s.spaces).length + 1 ≤ maxLen by unfold maxLen; omega]
   refine ⟨by decide +kernel, ?_⟩
   refine ih (i1 + 1) _ (by omega) (by omega) ?_
   simp only [go_sem, seval, wrap_succ (show i1 < 9223372036854775807 by omega), hr]
 have hn2 : s.spaces.length ≤ i1 := by omega
 have hz2 : i1 = s.spaces.length := by omega
 subst hst
 simp only [go_sem, seval, hlt, List.take_of_length_le hn2]
 rw [hz1, hz2]
 simp
set_option maxRecDepth 100000
theorem isQ_good (n : Int) : Ans Tryz.prog 100 [.int .i64 n] (.bool (isQ n)) := by
 have h := Within_good n 0 59
 have e : inB n 0 59 = isQ n := rfl
 rw [e] at h
 generalize isQ n = b at h
 refine good_run [] mixed Tryz.func100 rfl Tryz.ntmps100 (rs := [.tmp 2]) rfl (by decide +kernel) (by kernel_rfl) rfl ?_
 rw [startE_eq 5 _ _ _ rfl rfl]
 simp only [go_sem, seval]
 refine call_of (h) ?_
 simp only [go_sem, seval]
set_option maxHeartbeats 16000000 in
theorem fields_0 (c : Case) (hO : c.sec.objects.length ≤ 1000) (job src dst pointer object auth : Int) (data : ByteArray) (hd : data.size ≤ 1000000) : Ans Tryz.prog 54 [.agg (encCase c), .agg (encCOp ⟨0, job, src, dst, pointer, object, auth, data⟩)] (.int .i64 (if badF (cc c) ⟨0, job, src, dst, pointer, object, auth, data⟩ = true then 3 else 0)) := by
 rw [show badF (cc c) ⟨0, job, src, dst, pointer, object, auth, data⟩ = (!(isQ dst) || !(inB object 0 ((c.sec.objects.length : Int) - 1))) from by
  have e : decide (0 ≤ object ∧ object < ((cc c).O : Int)) = inB object 0 ((c.sec.objects.length : Int) - 1) := by
   unfold inB; exact decide_eq_decide.2 (by have : ((cc c).O : Int) = (c.sec.objects.length : Int) := rfl; omega)
  simp only [badF, e]
  simp]
 have w2 : IntKind.wrap .i64 ((c.sec.objects.length : Int) - 1) = (c.sec.objects.length : Int) - 1 := wrap_i64 (by omega) (by omega)
 have ht := isQ_good dst
 have ho := Within_good object 0 ((c.sec.objects.length : Int) - 1)
 generalize isQ dst = bt at ht ⊢
 generalize inB object 0 ((c.sec.objects.length : Int) - 1) = bo at ho ⊢
 cases bt <;> cases bo
 all_goals
  simp only [Bool.not_true, Bool.not_false, Bool.true_or, Bool.or_true, Bool.or_false, Bool.false_or, if_true, if_false, Bool.false_eq_true]
  refine good_run [] mixed Tryz.func54 rfl Tryz.ntmps54 (rs := [.tmp 4]) rfl (by decide +kernel) (by kernel_rfl) rfl ?_
  rw [startE_eq 118 _ _ _ rfl rfl]
  simp only [go_sem, seval, Bool.not_true, Bool.not_false, w2]
  refine call_of ht ?_
  simp only [go_sem, seval, Bool.not_true, Bool.not_false, w2]
  try (refine call_of ho ?_; simp only [go_sem, seval, Bool.not_true, Bool.not_false, w2])
set_option maxHeartbeats 16000000 in
theorem fields_1 (c : Case) (hO : c.sec.objects.length ≤ 1000) (job src dst pointer object auth : Int) (data : ByteArray) (hd : data.size ≤ 1000000) : Ans Tryz.prog 54 [.agg (encCase c), .agg (encCOp ⟨1, job, src, dst, pointer, object, auth, data⟩)] (.int .i64 (if badF (cc c) ⟨1, job, src, dst, pointer, object, auth, data⟩ = true then 3 else 0)) := by
 rw [show badF (cc c) ⟨1, job, src, dst, pointer, object, auth, data⟩ = (!(inB dst 0 960) || decide ((data.size : Int) > 960 - dst)) from by rw [Bool.eq_iff_iff]; simp [badF, isQ, inB]; omega]
 have hw := Within_good dst 0 960
 have hr : inB dst 0 960 = true → IntKind.wrap .i64 (960 - dst) = 960 - dst := fun h => by have := of_decide_eq_true h; exact wrap_i64 (by omega) (by omega)
 generalize inB dst 0 960 = bw at hw hr ⊢
 refine Classical.byCases (fun hz : (data.size : Int) > 960 - dst => ?_) fun hz => ?_ <;> cases bw
 all_goals
  simp only [Bool.not_true, Bool.not_false, Bool.true_or, Bool.or_true, Bool.or_false, Bool.false_or, if_true, if_false, Bool.false_eq_true, hz, decide_true, decide_false]
  try replace hr := hr rfl
  refine good_run [] mixed Tryz.func54 rfl Tryz.ntmps54 (rs := [.tmp 4]) rfl (by decide +kernel) (by kernel_rfl) rfl ?_
  rw [startE_eq 118 _ _ _ rfl rfl]
  simp only [go_sem, seval, Bool.not_true, Bool.not_false, hz, decide_true, decide_false, not_false_eq_true, hr]
  refine call_of hw ?_
  simp only [go_sem, seval, Bool.not_true, Bool.not_false, hz, decide_true, decide_false, not_false_eq_true, hr]
set_option maxHeartbeats 16000000 in
theorem fields_2 (c : Case) (hO : c.sec.objects.length ≤ 1000) (job src dst pointer object auth : Int) (data : ByteArray) (hd : data.size ≤ 1000000) (k : Int) (hk : k = 2 ∨ k = 3 ∨ k = 5) : Ans Tryz.prog 54 [.agg (encCase c), .agg (encCOp ⟨k, job, src, dst, pointer, object, auth, data⟩)] (.int .i64 (if badF (cc c) ⟨k, job, src, dst, pointer, object, auth, data⟩ = true then 3 else 0)) := by
 rw [show badF (cc c) ⟨k, job, src, dst, pointer, object, auth, data⟩ = (!(isQ src) || !(isQ dst)) from by rcases hk with rfl | rfl | rfl <;> simp [badF]]
 have hs := isQ_good src
 have ht := isQ_good dst
 generalize isQ src = bs at hs ⊢
 generalize isQ dst = bt at ht ⊢
 rcases hk with rfl | rfl | rfl <;> cases bs <;> cases bt
 all_goals
  simp only [Bool.not_true, Bool.not_false, Bool.true_or, Bool.or_true, Bool.or_false, Bool.false_or, if_true, if_false, Bool.false_eq_true]
  refine good_run [] mixed Tryz.func54 rfl Tryz.ntmps54 (rs := [.tmp 4]) rfl (by decide +kernel) (by kernel_rfl) rfl ?_
  rw [startE_eq 118 _ _ _ rfl rfl]
  simp only [go_sem, seval, Bool.not_true, Bool.not_false]
  refine call_of hs ?_
  simp only [go_sem, seval, Bool.not_true, Bool.not_false]
  try (refine call_of ht ?_; simp only [go_sem, seval, Bool.not_true, Bool.not_false])
set_option maxHeartbeats 16000000 in
theorem fields_4 (c : Case) (hO : c.sec.objects.length ≤ 1000) (job src dst pointer object auth : Int) (data : ByteArray) (hd : data.size ≤ 1000000) : Ans Tryz.prog 54 [.agg (encCase c), .agg (encCOp ⟨4, job, src, dst, pointer, object, auth, data⟩)] (.int .i64 (if badF (cc c) ⟨4, job, src, dst, pointer, object, auth, data⟩ = true then 3 else 0)) := by
 rw [show badF (cc c) ⟨4, job, src, dst, pointer, object, auth, data⟩ = (!(isQ src) || !(inB auth 0 1023)) from by rw [Bool.eq_iff_iff]; simp [badF, isQ, inB, cc, decide_eq_false_iff_not]; try omega]
 have hs := isQ_good src
 have ha := Within_good auth 0 1023
 generalize isQ src = bs at hs ⊢
 generalize inB auth 0 1023 = ba at ha ⊢
 cases bs <;> cases ba
 all_goals
  simp only [Bool.not_true, Bool.not_false, Bool.true_or, Bool.or_true, Bool.or_false, Bool.false_or, if_true, if_false, Bool.false_eq_true]
  refine good_run [] mixed Tryz.func54 rfl Tryz.ntmps54 (rs := [.tmp 4]) rfl (by decide +kernel) (by kernel_rfl) rfl ?_
  rw [startE_eq 118 _ _ _ rfl rfl]
  simp only [go_sem, seval, Bool.not_true, Bool.not_false]
  refine call_of hs ?_
  simp only [go_sem, seval, Bool.not_true, Bool.not_false]
  try (refine call_of ha ?_; simp only [go_sem, seval, Bool.not_true, Bool.not_false])
set_option maxHeartbeats 16000000 in
theorem fields_6 (c : Case) (hO : c.sec.objects.length ≤ 1000) (job src dst pointer object auth : Int) (data : ByteArray) (hd : data.size ≤ 1000000) (k : Int) (hk : k = 6 ∨ k = 7) : Ans Tryz.prog 54 [.agg (encCase c), .agg (encCOp ⟨k, job, src, dst, pointer, object, auth, data⟩)] (.int .i64 (if badF (cc c) ⟨k, job, src, dst, pointer, object, auth, data⟩ = true then 3 else 0)) := by
 rw [show badF (cc c) ⟨k, job, src, dst, pointer, object, auth, data⟩ = (!(isQ src) || !(isQ dst) || !(isQ pointer)) from by rcases hk with rfl | rfl <;> simp [badF]]
 have hs := isQ_good src
 have ht := isQ_good dst
 have hp := isQ_good pointer
 generalize isQ src = bs at hs ⊢
 generalize isQ dst = bt at ht ⊢
 generalize isQ pointer = bp at hp ⊢
 rcases hk with rfl | rfl <;> cases bs <;> cases bt <;> cases bp
 all_goals
  simp only [Bool.not_true, Bool.not_false, Bool.true_or, Bool.or_true, Bool.or_false, Bool.false_or, if_true, if_false, Bool.false_eq_true]
  refine good_run [] mixed Tryz.func54 rfl Tryz.ntmps54 (rs := [.tmp 4]) rfl (by decide +kernel) (by kernel_rfl) rfl ?_
  rw [startE_eq 118 _ _ _ rfl rfl]
  simp only [go_sem, seval, Bool.not_true, Bool.not_false]
  refine call_of hs ?_
  simp only [go_sem, seval, Bool.not_true, Bool.not_false]
  try (refine call_of ht ?_; simp only [go_sem, seval, Bool.not_true, Bool.not_false])
  try (refine call_of hp ?_; simp only [go_sem, seval, Bool.not_true, Bool.not_false])
set_option maxHeartbeats 16000000 in
theorem fields_8 (c : Case) (hO : c.sec.objects.length ≤ 1000) (job src dst pointer object auth : Int) (data : ByteArray) (hd : data.size ≤ 1000000) : Ans Tryz.prog 54 [.agg (encCase c), .agg (encCOp ⟨8, job, src, dst, pointer, object, auth, data⟩)] (.int .i64 (if badF (cc c) ⟨8, job, src, dst, pointer, object, auth, data⟩ = true then 3 else 0)) := by
 rw [show badF (cc c) ⟨8, job, src, dst, pointer, object, auth, data⟩ = (!(isQ pointer) || !(inB dst 0 960) || decide ((data.size : Int) > 960 - dst)) from by rw [Bool.eq_iff_iff]; simp [badF, isQ, inB]; omega]
 have hp := isQ_good pointer
 have hw := Within_good dst 0 960
 have hr : inB dst 0 960 = true → IntKind.wrap .i64 (960 - dst) = 960 - dst := fun h => by have := of_decide_eq_true h; exact wrap_i64 (by omega) (by omega)
 generalize isQ pointer = bp at hp ⊢
 generalize inB dst 0 960 = bw at hw hr ⊢
 refine Classical.byCases (fun hz : (data.size : Int) > 960 - dst => ?_) fun hz => ?_ <;> cases bp <;> cases bw
 all_goals
  simp only [Bool.not_true, Bool.not_false, Bool.true_or, Bool.or_true, Bool.or_false, Bool.false_or, if_true, if_false, Bool.false_eq_true, hz, decide_true, decide_false]
  try replace hr := hr rfl
  refine good_run [] mixed Tryz.func54 rfl Tryz.ntmps54 (rs := [.tmp 4]) rfl (by decide +kernel) (by kernel_rfl) rfl ?_
  rw [startE_eq 118 _ _ _ rfl rfl]
  simp only [go_sem, seval, Bool.not_true, Bool.not_false, hz, decide_true, decide_false, not_false_eq_true, hr]
  refine call_of hp ?_
  simp only [go_sem, seval, Bool.not_true, Bool.not_false, hz, decide_true, decide_false, not_false_eq_true, hr]
  try (refine call_of hw ?_; simp only [go_sem, seval, Bool.not_true, Bool.not_false, hz, decide_true, decide_false, not_false_eq_true, hr])
theorem fields_good (c : Case) (hO : c.sec.objects.length ≤ 1000) (o : COp) (hk : 0 ≤ o.kind ∧ o.kind ≤ 8) (hd : o.data.size ≤ 1000000) : Ans Tryz.prog 54 [.agg (encCase c), .agg (encCOp o)] (.int .i64 (if badF (cc c) o = true then 3 else 0)) := by
 obtain ⟨kind, job, src, dst, pointer, object, auth, data⟩ := o
 simp only at hk hd
 rcases (by omega : kind = 0 ∨ kind = 1 ∨ (kind = 2 ∨ kind = 3 ∨ kind = 5) ∨ kind = 4 ∨ (kind = 6 ∨ kind = 7) ∨ kind = 8) with rfl | rfl | h | rfl | h | rfl
 · exact fields_0 c hO job src dst pointer object auth data hd
 · exact fields_1 c hO job src dst pointer object auth data hd
 · exact fields_2 c hO job src dst pointer object auth data hd _ h
 · exact fields_4 c hO job src dst pointer object auth data hd
 · exact fields_6 c hO job src dst pointer object auth data hd _ h
 · exact fields_8 c hO job src dst pointer object auth data hd
end Go.Proofs.YtbhgehhmjpipiaaGreatDoor.C12
