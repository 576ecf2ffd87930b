/- Chapter 12: tagged storage by the program: pointers as bytes. -/
import Derived.Test.YtbhgehhmjpipiaaGreatDoorP40
set_option linter.unusedSimpArgs false
set_option linter.unusedVariables false
namespace Go.Proofs.YtbhgehhmjpipiaaGreatDoor.C12
open Go Go.Proofs Go.Proofs.YtbhgehhmjpipiaaGreatDoor.Ab Go.Proofs.YtbhgehhmjpipiaaGreatDoor.C10
set_option maxRecDepth 100000
attribute [local congr] ite_ctx
set_option maxHeartbeats 4000000 in
theorem big_good (x : Int) (n : Nat) (hx : 0 ≤ x ∧ x < 9223372036854775808) (hn : n ≤ 8) : Ans Tryz.prog 160 [.int .i64 x, .int .i64 (n : Int)] (.sl ((bigB x n).map encByte)) := by
 have b0 : (0 : Int) ≤ (n : Int) := by omega
 have b1 : (n : Int) ≤ 16777216 := by omega
 have b2 : n * 1 ≤ 140737488355328 := by omega
 have hz := zero_bytes n
 have hR0 : List.replicate n (0 : UInt8) = bigR x n 0 := by simp [bigR, bigB]
 refine good_run [(3, [6, 12, 13, 14, 15, 16, 17, 18, 19, 20, 21, 22, 23, 24, 25], [])] mixed Tryz.func160 rfl Tryz.ntmps160 (rs := [.tmp 4]) rfl (by decide +kernel) (by kernel_rfl) rfl ?_
 rw [startE_eq 27 _ _ _ rfl rfl]
 simp only [go_sem, seval, b0, b1, b2, Int.toNat_natCast, List.length_replicate]
 rw [hz, hR0]
 refine loop_by ([6, 12, 13, 14, 15, 16, 17, 18, 19, 20, 21, 22, 23, 24, 25], []) (fun i : Nat => [(.s 11, .int .i64 (i : Int)), (.o 8, .obj 1 5 1 false true ((bigR x n i).map encByte))]) (fun i => n - i) (fun i => i ≤ n) 0 rfl (Nat.zero_le _) ?_ ?_
 · simp only [go_sem, seval]
 rintro c' st' hst i hi ih
 simp only [go_sem, seval]
 refine ifI (fun hlt => ?_) fun hlt => ?_
 · have hlt' : i < n := by omega
   have hstep := bigR_step (x := x) (n := n) (i := i) (by omega)
   have hlen : (bigR x n i).length = n := by unfold bigR; rw [List.length_append, List.length_replicate, bigB_len]; omega
   have hu := u8_cut (x := x / 256 ^ i)
   have hs := shr_bytes hx.1 (i := i) (by omega)
   have w1 : IntKind.wrap .i64 ((n : Int) - 1) = ((n - 1 : Nat) : Int) := by rw [wrap_i64 (by omega) (by omega)]; omega
   have w2 : IntKind.wrap .i64 (((n - 1 : Nat) : Int) - (i : Int)) = ((n - 1 - i : Nat) : Int) := by rw [wrap_i64 (by omega) (by omega)]; omega
   have w3 : IntKind.wrap .i64 (8 * (i : Int)) = ((8 * i : Nat) : Int) := by rw [wrap_i64 (by omega) (by omega)]; omega
   have w4 : ¬ ((8 * i : Nat) : Int) < 0 := by omega
   have hix : n - 1 - i < (bigR x n i).length := by omega
   have hix2 : ((n - 1 - i : Nat) : Int) < ((bigR x n i).length : Int) := by omega
   have hix0 : (0 : Int) ≤ ((n - 1 - i : Nat) : Int) := by omega
   have hq : (List.map encByte (bigR x n i))[n - 1 - i]? = some [.int .u8 ((nth (bigR x n i) (n - 1 - i)).toNat : Int)] := at_map hix
   have hset : (List.map encByte (bigR x n i)).set (n - 1 - i) [.int .u8 ((UInt8.ofNat (x / 256 ^ i % 256).toNat).toNat : Int)] = List.map encByte (bigR x n (i + 1)) := by
    rw [← hstep, List.map_set]; rfl
   simp only [go_sem, seval, hlt, w1, w2, w3, w4, hs, hix0, hix, hix2, hq, Option.map_some, Tryz.underlying3, Tryz.underlying5, hu, hset, Int.toNat_natCast]
   refine ih (i + 1) _ (by omega) (by omega) ?_
   simp only [go_sem, seval, wrap_succ (show i < 9223372036854775807 by omega)]
 · have hin : i = n := by omega
   subst hst hin
   simp only [go_sem, seval, hlt]
   rw [show bigR x i i = bigB x i by simp [bigR]]
   try exact ⟨rfl, rfl⟩
theorem Grow16M : AnsM Tryz.prog 190 27 [] [.nils, .int .i64 16] (.win 22 1 0 0) [(22, .obj 1 5 1 false true (List.replicate 16 [.int .u8 0]))] := by
 refine goodM_run [] mixed Tryz.func190 rfl Tryz.ntmps190 (rs := [.tmp 4]) rfl (by decide +kernel) (by kernel_rfl) ?_
 rw [startM_eq 27 _ _ _ _ rfl rfl]
 simp only [go_sem, seval, show IntKind.wrap .i64 0 = 0 by decide, show IntKind.wrap .i64 (16 - 0) = 16 by decide, show IntKind.wrap .i64 16 = 16 by decide, show IntKind.wrap .i64 (0 - 0) = 0 by decide, Int.sub_zero, decide_true, Nat.zero_le, Nat.zero_add, List.length_replicate]
 simp
set_option maxHeartbeats 8000000 in
theorem Concat16_good (a b : UInt8) (c d e : List UInt8) (hc : c.length = 2) (hd : d.length = 6) (he : e.length = 6) :
 Ans Tryz.prog 159 [.sl [[.sl ([a].map encByte)], [.sl ([b].map encByte)], [.sl (c.map encByte)], [.sl (d.map encByte)], [.sl (e.map encByte)]]] (.sl (([a, b] ++ c ++ d ++ e).map encByte)) := by
 match c, d, e, hc, hd, he with
 | [c0, c1], [d0, d1, d2, d3, d4, d5], [e0, e1, e2, e3, e4, e5], _, _, _ =>
 refine good_run [(11, [8, 28, 29, 30, 31, 32, 33, 34], []), (3, [5, 12, 13, 14, 15, 16, 17, 18, 19, 20, 21, 22], [])] mixed Tryz.func159 rfl Tryz.ntmps159 (rs := [.tmp 2]) rfl (by decide +kernel) (by kernel_rfl) rfl ?_
 rw [startE_eq 36 _ _ _ rfl rfl]
 simp only [go_sem, seval]
 iterate 6
  refine loop_unfold ?_
  simp only [go_sem, seval, show IntKind.wrap .i64 1 = 1 by decide, show IntKind.wrap .i64 2 = 2 by decide, show IntKind.wrap .i64 3 = 3 by decide, show IntKind.wrap .i64 4 = 4 by decide, show IntKind.wrap .i64 5 = 5 by decide, show IntKind.wrap .i64 10 = 10 by decide, show IntKind.wrap .i64 16 = 16 by decide, show IntKind.wrap .i64 (0 + 1) = 1 by decide, show IntKind.wrap .i64 (1 + 1) = 2 by decide, show IntKind.wrap .i64 (2 + 1) = 3 by decide, show IntKind.wrap .i64 (3 + 1) = 4 by decide, show IntKind.wrap .i64 (4 + 1) = 5 by decide, show IntKind.wrap .i64 (2 + 2) = 4 by decide, show IntKind.wrap .i64 (4 + 6) = 10 by decide, show IntKind.wrap .i64 (10 + 6) = 16 by decide, decide_false]
 refine callM_of [] [24] (Grow16M) ⟨rfl, rfl, rfl, by simp, by simp, by simp, by simp, rfl, rfl, rfl, onodup_of (l := [22]) rfl (by decide)⟩ ?_
 simp only [go_sem, seval]
 iterate 6
  refine loop_unfold ?_
  simp only [go_sem, seval, show IntKind.wrap .i64 1 = 1 by decide, show IntKind.wrap .i64 2 = 2 by decide, show IntKind.wrap .i64 3 = 3 by decide, show IntKind.wrap .i64 4 = 4 by decide, show IntKind.wrap .i64 5 = 5 by decide, show IntKind.wrap .i64 10 = 10 by decide, show IntKind.wrap .i64 16 = 16 by decide, show IntKind.wrap .i64 (0 + 1) = 1 by decide, show IntKind.wrap .i64 (1 + 1) = 2 by decide, show IntKind.wrap .i64 (2 + 1) = 3 by decide, show IntKind.wrap .i64 (3 + 1) = 4 by decide, show IntKind.wrap .i64 (4 + 1) = 5 by decide, Nat.zero_add, Nat.add_zero, List.replicate, encByte]
set_option maxRecDepth 100000
set_option maxHeartbeats 4000000 in
theorem encoded_good (p : Ptr) (hp : ptrE p = 0) : Ans Tryz.prog 121 [.agg (encPtr p)] (.str (ptrB p)) := by
 obtain ⟨h1, h2, h3, h4, h5⟩ := ptrE_ok.1 hp
 have hk := big_good p.kind 1 (by omega) (by decide)
 have hz := big_good 0 1 (by decide) (by decide)
 have ha := big_good p.auth 2 (by omega) (by decide)
 have hs := big_good p.seg 6 (by omega) (by decide)
 have ho := big_good p.off 6 (by omega) (by decide)
 have hkb : bigB p.kind 1 = [UInt8.ofNat p.kind.toNat] := by
  have : p.kind % 256 = p.kind := by omega
  simp [bigB, this]
 have hzb : bigB 0 1 = [0] := by decide
 have hC := Concat16_good (UInt8.ofNat p.kind.toNat) 0 (bigB p.auth 2) (bigB p.seg 6) (bigB p.off 6) (bigB_len _ _) (bigB_len _ _) (bigB_len _ _)
 have hb : ptrB p = ⟨([UInt8.ofNat p.kind.toNat, 0] ++ bigB p.auth 2 ++ bigB p.seg 6 ++ bigB p.off 6).toArray⟩ := rfl
 rw [hb]
 rw [hkb] at hk
 rw [hzb] at hz
 generalize UInt8.ofNat p.kind.toNat = kk at hk hC
 generalize bigB p.auth 2 = ba at ha hC
 generalize bigB p.seg 6 = bs at hs hC
 generalize bigB p.off 6 = bo at ho hC
 generalize [kk, 0] ++ ba ++ bs ++ bo = R at hC
 refine good_run [] mixed Tryz.func121 rfl Tryz.ntmps121 (rs := [.tmp 2]) rfl (by decide +kernel) (by kernel_rfl) rfl ?_
 rw [startE_eq 21 _ _ _ rfl rfl]
 simp only [go_sem, seval]
 refine callD_of (hk) ?_
 simp only [go_sem, seval]
 refine callD_of (hz) ?_
 simp only [go_sem, seval]
 refine callD_of (ha) ?_
 simp only [go_sem, seval]
 refine callD_of (hs) ?_
 simp only [go_sem, seval]
 refine callD_of (ho) ?_
 simp only [go_sem, seval]
 refine callD_of (hC) ?_
 simp only [go_sem, seval]
 decide +kernel
theorem inside_ok (s : Stg) (hs : SOk s) (he : (stgE s).2 = 0) (a n : Nat) (h : a + n ≤ s.bytes.size) : Ans Tryz.prog 122 [.agg (encStg s), .int .i64 (a : Int), .int .i64 (n : Int)] (.int .i64 0) := by
 have h1 := hs.size
 have h2 := hs.small
 have hc := CheckStg_good s (by omega) (by omega)
 rw [he] at hc
 have c0 : ((a : Int) < 0) = False := eq_false (by omega)
 have c1 : ((n : Int) < 0) = False := eq_false (by omega)
 have c2 : ((a : Int) > (s.bytes.size : Int)) = False := eq_false (by omega)
 have w1 : IntKind.wrap .i64 ((s.bytes.size : Int) - (a : Int)) = (s.bytes.size : Int) - (a : Int) := wrap_i64 (by omega) (by omega)
 have c3 : ((n : Int) > (s.bytes.size : Int) - (a : Int)) = False := eq_false (by omega)
 generalize (stgE s).1 = e at hc
 refine good_run [] mixed Tryz.func122 rfl Tryz.ntmps122 (rs := [.tmp 6]) rfl (by decide +kernel) (by kernel_rfl) rfl ?_
 rw [startE_eq 39 _ _ _ rfl rfl]
 simp only [go_sem, seval]
 refine call_of (hc) ?_
 simp only [go_sem, seval, c0, c1, c2, w1, c3, decide_false]
theorem CloneBM (l : List Bool) (hl : 0 < l.length ∧ l.length ≤ 1000000) : AnsM Tryz.prog 158 8 [] [.sl (l.map encB)] (.ref 7 1) [(7, .obj 1 4 1 false true (l.map encB))] := by
 refine goodM_run [] mixed Tryz.func158 rfl Tryz.ntmps158 (rs := [.tmp 2]) rfl (by decide +kernel) (by kernel_rfl) ?_
 rw [startM_eq 8 _ _ _ _ rfl rfl]
 simp only [go_sem, seval]
 simp only [go_sem, seval, show ¬ l.length = 0 by omega, show (0 + l.length) * 1 ≤ 140737488355328 by omega, show 0 + l.length ≤ maxLen by unfold maxLen; omega]
 simp
set_option maxHeartbeats 8000000 in
theorem putM (s : Stg) (a : Nat) (d : ByteArray) (h0 : 0 < s.tags.length) (ht : s.tags.length ≤ 1000) (hs : s.bytes.size = 16 * s.tags.length) (h : a + d.size ≤ s.bytes.size) :
 AnsM Tryz.prog 120 41 [] [.agg (encStg s), .int .i64 (a : Int), .str d] (.agg [.str (patch s.bytes a d), .ref 24 1]) [(24, .obj 1 4 1 false true ((clearT s.tags a d.size).map encB))] := by
 have hC := CloneBM s.tags ⟨h0, by omega⟩
 have w1 : IntKind.wrap .i64 ((a : Int) + (d.size : Int)) = ((a + d.size : Nat) : Int) := by rw [wrap_i64 (by omega) (by omega)]; omega
 have c0 : (0 : Int) ≤ (a : Int) := by omega
 have c1 : (a : Int) ≤ (s.bytes.size : Int) := by omega
 have c2 : (0 : Int) ≤ ((a + d.size : Nat) : Int) := by omega
 have c3 : ((a + d.size : Nat) : Int) ≤ (s.bytes.size : Int) := by omega
 have hpe : patch s.bytes a d = s.bytes.extract 0 a ++ d ++ s.bytes.extract (a + d.size) s.bytes.size := rfl
 rw [hpe]
 have e1 : (s.bytes.extract 0 a).size = a := by rw [ByteArray.size_extract]; omega
 have e2 : (s.bytes.extract (a + d.size) s.bytes.size).size = s.bytes.size - (a + d.size) := by rw [ByteArray.size_extract]; omega
 have t1 : (((s.bytes.extract 0 a).size + d.size : Nat) : Int) ≤ 9223372036854775807 := by rw [e1]; omega
 have t2 : (((s.bytes.extract 0 a).size + d.size + (s.bytes.extract (a + d.size) s.bytes.size).size : Nat) : Int) ≤ 9223372036854775807 := by rw [e1, e2]; omega
 refine Classical.byCases (fun hz : d.size = 0 => ?_) fun hz => ?_
 · have hd : d = ⟨#[]⟩ := ByteArray.ext (Array.eq_empty_of_size_eq_zero hz)
   have hcz : clearT s.tags a d.size = s.tags := by rw [hz]; exact clearT_zero s.tags a
   rw [hcz]
   have hdt := eq_true hd
   refine goodM_run [] mixed Tryz.func120 rfl Tryz.ntmps120 (rs := [.cell 6 91]) rfl (by decide +kernel) (by kernel_rfl) ?_
   rw [startM_eq 41 _ _ _ _ rfl rfl]
   simp only [go_sem, seval, w1, c0, c1, c2, c3, Int.toNat_natCast, t1, t2, Nat.le_refl, Int.le_refl]
   refine callMD_of [] [24] (hC) ⟨rfl, rfl, rfl, by simp, by simp, by simp, by simp, rfl, rfl, rfl, onodup_of (l := [7]) rfl (by decide)⟩ ?_
   simp only [go_sem, seval]
   refine ⟨by decide +kernel, ?_⟩
   simp only [go_sem, seval, hdt, not_true_eq_false, decide_false]
   simp
 · have hdn : ¬ d = ⟨#[]⟩ := fun e => hz (by rw [e]; rfl)
   have w2 : IntKind.wrap .i64 (((a + d.size : Nat) : Int) - 1) = ((a + d.size - 1 : Nat) : Int) := by rw [wrap_i64 (by omega) (by omega)]; omega
   have w3 : IntKind.wrap .i64 (Int.tdiv ((a + d.size - 1 : Nat) : Int) 16) = (((a + d.size - 1) / 16 : Nat) : Int) := by rw [Int.tdiv_eq_ediv_of_nonneg (by omega), wrap_i64 (by omega) (by omega)]; omega
   have w4 : IntKind.wrap .i64 ((((a + d.size - 1) / 16 : Nat) : Int) + 1) = (((a + d.size - 1) / 16 + 1 : Nat) : Int) := by rw [wrap_i64 (by omega) (by omega)]; omega
   have w5 : IntKind.wrap .i64 (Int.tdiv (a : Int) 16) = ((a / 16 : Nat) : Int) := by rw [Int.tdiv_eq_ediv_of_nonneg (by omega), wrap_i64 (by omega) (by omega)]; omega
   have hw := clear_win (l := s.tags) (a := a) (n := d.size) (by omega) (by omega)
   have hB : (a + d.size - 1) / 16 + 1 ≤ s.tags.length := by omega
   have hA : a / 16 ≤ (a + d.size - 1) / 16 + 1 := by omega
   generalize (a + d.size - 1) / 16 + 1 = B at w4 hw hB hA
   generalize a / 16 = A at w5 hw hA
   have b0 : (0 : Int) ≤ (A : Int) := by omega
   have b1 : (A : Int) ≤ (B : Int) := by omega
   have b2 : (B : Int) ≤ (s.tags.length : Int) := by omega
   have b3 : A + (B - A) ≤ s.tags.length := by omega
   have hw2 : List.map encB (s.tags.take A) ++ List.replicate (B - A) [AV.bool false] ++ List.map encB (s.tags.drop (A + (B - A))) = List.map encB (clearT s.tags a d.size) := by
    rw [← hw, List.map_append, List.map_append, List.map_replicate]; rfl
   refine goodM_run [] mixed Tryz.func120 rfl Tryz.ntmps120 (rs := [.cell 6 91]) rfl (by decide +kernel) (by kernel_rfl) ?_
   rw [startM_eq 41 _ _ _ _ rfl rfl]
   simp only [go_sem, seval, w1, c0, c1, c2, c3, Int.toNat_natCast, t1, t2, Nat.le_refl, Int.le_refl]
   refine callMD_of [] [24] (hC) ⟨rfl, rfl, rfl, by simp, by simp, by simp, by simp, rfl, rfl, rfl, onodup_of (l := [7]) rfl (by decide)⟩ ?_
   simp only [go_sem, seval]
   refine ⟨by decide +kernel, ?_⟩
   simp only [go_sem, seval, hdn, not_false_eq_true, decide_true, w1, w2, w3, w4, w5, b0, b1, b2, b3, Int.toNat_natCast, Nat.zero_add, Nat.zero_le, Nat.sub_zero, hw2]
   simp
set_option maxRecDepth 100000
structure SGood (s : Stg) : Prop where
 sok : SOk s
 ste : (stgE s).2 = 0
theorem SGood.of {s : Stg} (h : SOk s) : SGood s := ⟨h, stgE_ok h⟩
set_option maxHeartbeats 4000000 in
theorem WriteB_good (s : Stg) (h : SGood s) (h0 : 0 < s.tags.length) (a : Nat) (d : ByteArray) (hw : a + d.size ≤ s.bytes.size) :
 Ans Tryz.prog 75 [.agg (encStg s), .int .i64 (a : Int), .str d] (.tup [.agg (encStg (wrS s a d)), .int .i64 0]) := by
 have hi := inside_ok s h.sok h.ste a d.size hw
 have hp := putM s a d h0 (by have := h.sok.small; omega) h.sok.size hw
 have hse : encStg (wrS s a d) = [.str (patch s.bytes a d), .sl ((clearT s.tags a d.size).map encB)] := rfl
 rw [hse]
 generalize patch s.bytes a d = pb at hp
 generalize clearT s.tags a d.size = T at hp
 refine good_run [] mixed Tryz.func75 rfl Tryz.ntmps75 (rs := [.cell 6 91, .tmp 7]) rfl (by decide +kernel) (by kernel_rfl) rfl ?_
 rw [startE_eq 22 _ _ _ rfl rfl]
 simp only [go_sem, seval]
 refine call_of (hi) ?_
 simp only [go_sem, seval]
 refine callM_of [] [21] (hp) ⟨rfl, rfl, rfl, by simp, by simp, by simp, by simp, rfl, rfl, rfl, onodup_of (l := [24]) rfl (by decide)⟩ ?_
 simp only [go_sem, seval]
theorem putQ (s : Stg) (k : Nat) (q : ByteArray) (hq : q.size = 16) (hk : k < s.tags.length) (ht : s.tags.length ≤ 1000) (hs : s.bytes.size = 16 * s.tags.length) :
 AnsM Tryz.prog 120 41 [] [.agg (encStg s), .int .i64 ((16 * k : Nat) : Int), .str q] (.agg [.str (patch s.bytes (16 * k) q), .ref 24 1]) [(24, .obj 1 4 1 false true ((s.tags.set k false).map encB))] := by
 have h := putM s (16 * k) q (by omega) ht hs (by omega)
 rw [hq, clearT_quad] at h
 exact h
set_option maxHeartbeats 4000000 in
theorem StoreP_good (s : Stg) (h : SGood s) (k : Nat) (p : Ptr) (hp : ptrE p = 0) (hk : k < s.tags.length) :
 Ans Tryz.prog 74 [.agg (encStg s), .int .i64 ((16 * k : Nat) : Int), .agg (encPtr p)] (.tup [.agg (encStg (setQ s k (ptrB p) true)), .int .i64 0]) := by
 have hm := h.sok.small
 have hl := place_good s h.sok h.ste k hk
 have hc := CheckPtr_good p
 rw [hp] at hc
 have hb := encoded_good p hp
 have hw := putQ s k (ptrB p) (ptrB_size p) hk (by omega) h.sok.size
 have hse : encStg (setQ s k (ptrB p) true) = [.str (patch s.bytes (16 * k) (ptrB p)), .sl ((s.tags.set k true).map encB)] := rfl
 rw [hse]
 have d1 : IntKind.wrap .i64 (Int.tdiv ((16 * k : Nat) : Int) 16) = (k : Int) := by rw [Int.tdiv_eq_ediv_of_nonneg (by omega), wrap_i64 (by omega) (by omega)]; omega
 have hix1 : k < (s.tags.set k false).length := by rw [List.length_set]; exact hk
 have hix2 : (k : Int) < ((s.tags.set k false).length : Int) := by omega
 have hq : (List.map encB (s.tags.set k false))[k]? = some [.bool (nth (s.tags.set k false) k)] := at_map hix1
 have hset : (List.map encB (s.tags.set k false)).set k [.bool true] = List.map encB (s.tags.set k true) := by
  rw [show [AV.bool true] = encB true from rfl, ← List.map_set, List.set_set]
 generalize ((16 * k : Nat) : Int) = a at hw d1 hl
 generalize patch s.bytes (16 * k) (ptrB p) = pb at hw
 generalize ptrB p = bb at hb hw
 refine good_run [] mixed Tryz.func74 rfl Tryz.ntmps74 (rs := [.cell 6 91, .tmp 7]) rfl (by decide +kernel) (by kernel_rfl) rfl ?_
 rw [startE_eq 35 _ _ _ rfl rfl]
 simp only [go_sem, seval]
 refine call_of (hl) ?_
 simp only [go_sem, seval]
 refine call_of (hc) ?_
 simp only [go_sem, seval]
 refine callD_of (hb) ?_
 simp only [go_sem, seval]
 refine callMD_of [] [28] (hw) ⟨rfl, rfl, rfl, by simp, by simp, by simp, by simp, rfl, rfl, rfl, onodup_of (l := [24]) rfl (by decide)⟩ ?_
 simp only [go_sem, seval]
 refine ⟨by decide +kernel, ?_⟩
 simp only [go_sem, seval, d1, hix1, hix2, hq, Option.map_some, hset, Int.toNat_natCast]
theorem ranges_ok (s : Stg) (h : SGood s) (a d : Nat) (ha : a < s.tags.length) (hd : d < s.tags.length) :
 Ans Tryz.prog 123 [.agg (encStg s), .agg [.int .i64 ((16 * a : Nat) : Int), .int .i64 ((16 * d : Nat) : Int), .int .i64 16]] (.int .i64 0) := by
 have hz := h.sok.size
 have h1 := inside_ok s h.sok h.ste (16 * a) 16 (by omega)
 have h2 := inside_ok s h.sok h.ste (16 * d) 16 (by omega)
 generalize ((16 * a : Nat) : Int) = aa at h1
 generalize ((16 * d : Nat) : Int) = dd at h2
 replace h1 : Ans Tryz.prog 122 [.agg (encStg s), .int .i64 aa, .int .i64 16] (.int .i64 0) := h1
 replace h2 : Ans Tryz.prog 122 [.agg (encStg s), .int .i64 dd, .int .i64 16] (.int .i64 0) := h2
 refine good_run [] mixed Tryz.func123 rfl Tryz.ntmps123 (rs := [.tmp 4]) rfl (by decide +kernel) (by kernel_rfl) rfl ?_
 rw [startE_eq 21 _ _ _ rfl rfl]
 simp only [go_sem, seval]
 refine call_of (h1) ?_
 simp only [go_sem, seval]
 refine call_of (h2) ?_
 simp only [go_sem, seval]
set_option maxHeartbeats 4000000 in
theorem CopyB_good (s : Stg) (h : SGood s) (a d : Nat) (ha : a < s.tags.length) (hd : d < s.tags.length) :
 Ans Tryz.prog 77 [.agg (encStg s), .agg [.int .i64 ((16 * a : Nat) : Int), .int .i64 ((16 * d : Nat) : Int), .int .i64 16]] (.tup [.agg (encStg (setQ s d (quadB s.bytes a) false)), .int .i64 0]) := by
 have hz := h.sok.size
 have hm := h.sok.small
 have hr := ranges_ok s h a d ha hd
 have hw := putQ s d (quadB s.bytes a) (quadB_size (by omega)) hd (by omega) hz
 have hse : encStg (setQ s d (quadB s.bytes a) false) = [.str (patch s.bytes (16 * d) (quadB s.bytes a)), .sl ((s.tags.set d false).map encB)] := rfl
 rw [hse]
 have w2 : IntKind.wrap .i64 (((16 * a : Nat) : Int) + 16) = ((16 * a + 16 : Nat) : Int) := by rw [wrap_i64 (by omega) (by omega)]; omega
 have c0 : (0 : Int) ≤ ((16 * a : Nat) : Int) := by omega
 have c1 : ((16 * a : Nat) : Int) ≤ ((16 * a + 16 : Nat) : Int) := by omega
 have c2 : ((16 * a + 16 : Nat) : Int) ≤ (s.bytes.size : Int) := by omega
 have hqe : s.bytes.extract (16 * a) (16 * a + 16) = quadB s.bytes a := rfl
 generalize patch s.bytes (16 * d) (quadB s.bytes a) = pb at hw
 generalize ((16 * d : Nat) : Int) = dd at hw hr
 refine good_run [] mixed Tryz.func77 rfl Tryz.ntmps77 (rs := [.cell 4 91, .tmp 5]) rfl (by decide +kernel) (by kernel_rfl) rfl ?_
 rw [startE_eq 28 _ _ _ rfl rfl]
 simp only [go_sem, seval]
 refine call_of (hr) ?_
 simp only [go_sem, seval]
 simp only [go_sem, seval, w2, c0, c1, c2, Int.toNat_natCast, hqe]
 refine callMD_of [] [27] (hw) ⟨rfl, rfl, rfl, by simp, by simp, by simp, by simp, rfl, rfl, rfl, onodup_of (l := [24]) rfl (by decide)⟩ ?_
 simp only [go_sem, seval]
 decide +kernel
theorem moves_back {a d : Nat} (ha : a ≤ 1000) (hd : d ≤ 1000) : IntKind.wrap .i64 (Int.tdiv (IntKind.wrap .i64 (((16 * a : Nat) : Int) - ((16 * d : Nat) : Int))) 16) = (a : Int) - (d : Int) := by
 have e : ((16 * a : Nat) : Int) - ((16 * d : Nat) : Int) = 16 * ((a : Int) - (d : Int)) := by omega
 have h1 : IntKind.wrap .i64 (16 * ((a : Int) - (d : Int))) = 16 * ((a : Int) - (d : Int)) := wrap_i64 (by omega) (by omega)
 rw [e, h1, Int.mul_tdiv_cancel_left _ (by decide), wrap_i64 (by omega) (by omega)]
set_option maxHeartbeats 8000000 in
theorem CopyT_good (s : Stg) (h : SGood s) (a d : Nat) (ha : a < s.tags.length) (hd : d < s.tags.length) :
 Ans Tryz.prog 76 [.agg (encStg s), .agg [.int .i64 ((16 * a : Nat) : Int), .int .i64 ((16 * d : Nat) : Int), .int .i64 16]] (.tup [.agg (encStg (setQ s d (quadB s.bytes a) (nth s.tags a))), .int .i64 0]) := by
 have hz := h.sok.size
 have hm := h.sok.small
 have hr := ranges_ok s h a d ha hd
 have hw := putQ s d (quadB s.bytes a) (quadB_size (by omega)) hd (by omega) hz
 have hse : encStg (setQ s d (quadB s.bytes a) (nth s.tags a)) = [.str (patch s.bytes (16 * d) (quadB s.bytes a)), .sl ((s.tags.set d (nth s.tags a)).map encB)] := rfl
 rw [hse]
 have w2 : IntKind.wrap .i64 (((16 * a : Nat) : Int) + 16) = ((16 * a + 16 : Nat) : Int) := by rw [wrap_i64 (by omega) (by omega)]; omega
 have c0 : (0 : Int) ≤ ((16 * a : Nat) : Int) := by omega
 have c1 : ((16 * a : Nat) : Int) ≤ ((16 * a + 16 : Nat) : Int) := by omega
 have c2 : ((16 * a + 16 : Nat) : Int) ≤ (s.bytes.size : Int) := by omega
 have hqe : s.bytes.extract (16 * a) (16 * a + 16) = quadB s.bytes a := rfl
 have m1 : Int.tmod ((16 * a : Nat) : Int) 16 = 0 := by rw [Int.tmod_eq_emod_of_nonneg (by omega)]; omega
 have m2 : Int.tmod ((16 * d : Nat) : Int) 16 = 0 := by rw [Int.tmod_eq_emod_of_nonneg (by omega)]; omega
 have w3 : IntKind.wrap .i64 (((16 * d : Nat) : Int) + 16) = ((16 * d + 16 : Nat) : Int) := by rw [wrap_i64 (by omega) (by omega)]; omega
 have w4 : IntKind.wrap .i64 (((16 * d + 16 : Nat) : Int) - 1) = ((16 * d + 15 : Nat) : Int) := by rw [wrap_i64 (by omega) (by omega)]; omega
 have w5 : IntKind.wrap .i64 (Int.tdiv ((16 * d + 15 : Nat) : Int) 16) = (d : Int) := by rw [Int.tdiv_eq_ediv_of_nonneg (by omega), wrap_i64 (by omega) (by omega)]; omega
 have w6 : IntKind.wrap .i64 ((d : Int) + 1) = ((d + 1 : Nat) : Int) := by rw [wrap_i64 (by omega) (by omega)]; omega
 have w7 : IntKind.wrap .i64 (((d + 1 : Nat) : Int) * 16) = ((16 * d + 16 : Nat) : Int) := by rw [wrap_i64 (by omega) (by omega)]; omega
 have w8 : IntKind.wrap .i64 (((d + 1 : Nat) : Int) + 1) = ((d + 2 : Nat) : Int) := by rw [wrap_i64 (by omega) (by omega)]; omega
 have w9 : IntKind.wrap .i64 (((d + 2 : Nat) : Int) * 16) = ((16 * d + 32 : Nat) : Int) := by rw [wrap_i64 (by omega) (by omega)]; omega
 have l1 : ((16 * d + 16 : Nat) : Int) ≤ ((16 * d + 16 : Nat) : Int) := Int.le_refl _
 have l2 : ¬ ((16 * d + 32 : Nat) : Int) ≤ ((16 * d + 16 : Nat) : Int) := by omega
 have mb := moves_back (a := a) (d := d) (by omega) (by omega)
 have ma : IntKind.wrap .i64 ((d : Int) + ((a : Int) - (d : Int))) = (a : Int) := by rw [wrap_i64 (by omega) (by omega)]; omega
 have ha2 : (a : Int) < (s.tags.length : Int) := by omega
 have hix1 : d < (s.tags.set d false).length := by rw [List.length_set]; exact hd
 have hix2 : (d : Int) < ((s.tags.set d false).length : Int) := by omega
 have hq : (List.map encB (s.tags.set d false))[d]? = some [.bool (nth (s.tags.set d false) d)] := at_map hix1
 have hqa : (List.map encB s.tags)[a]? = some [.bool (nth s.tags a)] := at_map ha
 have hset : (List.map encB (s.tags.set d false)).set d [.bool (nth s.tags a)] = List.map encB (s.tags.set d (nth s.tags a)) := by
  rw [show [AV.bool (nth s.tags a)] = encB (nth s.tags a) from rfl, ← List.map_set, List.set_set]
 generalize patch s.bytes (16 * d) (quadB s.bytes a) = pb at hw
 refine good_run [(8, [43, 44, 45, 46, 47, 48, 49, 50, 51, 52, 53, 54, 55, 56, 57, 58, 59, 60, 61, 62, 63, 64, 65, 66, 67, 68, 69], [])] mixed Tryz.func76 rfl Tryz.ntmps76 (rs := [.cell 4 91, .tmp 5]) rfl (by decide +kernel) (by kernel_rfl) rfl ?_
 rw [startE_eq 71 _ _ _ rfl rfl]
 simp only [go_sem, seval]
 refine call_of (hr) ?_
 simp only [go_sem, seval, m1, m2, not_true_eq_false, decide_false]
 simp only [go_sem, seval, w2, c0, c1, c2, Int.toNat_natCast, hqe]
 refine callMD_of [] [37] (hw) ⟨rfl, rfl, rfl, by simp, by simp, by simp, by simp, rfl, rfl, rfl, onodup_of (l := [24]) rfl (by decide)⟩ ?_
 simp only [go_sem, seval]
 refine ⟨by decide +kernel, ?_⟩
 simp only [go_sem, seval, w3, w4, w5]
 refine loop_unfold ?_
 simp only [go_sem, seval, w3, w6, w7, l1, mb, ma, ha, ha2, hix1, hix2, hq, hqa, Option.map_some, hset, Int.toNat_natCast]
 refine ⟨by decide +kernel, ?_⟩
 refine loop_unfold ?_
 simp only [go_sem, seval, w3, w8, w9, l2]
theorem LoadPtr_no (s : Stg) (h : SGood s) (k : Nat) (hk : k < s.tags.length) (ht : nth s.tags k = false) : Ans Tryz.prog 83 [.agg (encStg s), .int .i64 ((16 * k : Nat) : Int)] (.tup [.agg (encPtr ⟨0, 0, 0, 0⟩), .int .i64 22]) := by
 have h2 := h.sok.small
 have hl := place_good s h.sok h.ste k hk
 have d1 : IntKind.wrap .i64 (Int.tdiv ((16 * k : Nat) : Int) 16) = (k : Int) := by rw [Int.tdiv_eq_ediv_of_nonneg (by omega), wrap_i64 (by omega) (by omega)]; omega
 have hlt : (k : Int) < (s.tags.length : Int) := by omega
 generalize ((16 * k : Nat) : Int) = a at hl d1
 refine good_run [] mixed Tryz.func83 rfl Tryz.ntmps83 (rs := [.cell 4 97, .tmp 5]) rfl (by decide +kernel) (by kernel_rfl) rfl ?_
 rw [startE_eq 31 _ _ _ rfl rfl]
 simp only [go_sem, seval]
 refine call_of (hl) ?_
 simp only [go_sem, seval, Bool.not_false, Bool.not_true, d1, hlt, hk, ht]
theorem ReadQ_good (s : Stg) (h : SGood s) (k : Nat) (hk : k < s.tags.length) : Ans Tryz.prog 124 [.agg (encStg s), .int .i64 ((16 * k : Nat) : Int), .int .i64 16] (.tup [.str (quadB s.bytes k), .int .i64 0]) := by
 have hz := h.sok.size
 have hm := h.sok.small
 have hi : Ans Tryz.prog 122 [.agg (encStg s), .int .i64 ((16 * k : Nat) : Int), .int .i64 16] (.int .i64 0) := inside_ok s h.sok h.ste (16 * k) 16 (by omega)
 have w2 : IntKind.wrap .i64 (((16 * k : Nat) : Int) + 16) = ((16 * k + 16 : Nat) : Int) := by rw [wrap_i64 (by omega) (by omega)]; omega
 have c0 : (0 : Int) ≤ ((16 * k : Nat) : Int) := by omega
 have c1 : ((16 * k : Nat) : Int) ≤ ((16 * k + 16 : Nat) : Int) := by omega
 have c2 : ((16 * k + 16 : Nat) : Int) ≤ (s.bytes.size : Int) := by omega
 have hqe : s.bytes.extract (16 * k) (16 * k + 16) = quadB s.bytes k := rfl
 refine good_run [] mixed Tryz.func124 rfl Tryz.ntmps124 (rs := [.tmp 6, .tmp 7]) rfl (by decide +kernel) (by kernel_rfl) rfl ?_
 rw [startE_eq 23 _ _ _ rfl rfl]
 simp only [go_sem, seval]
 refine call_of (hi) ?_
 simp only [go_sem, seval, w2, c0, c1, c2, Int.toNat_natCast, hqe]
set_option maxHeartbeats 4000000 in
theorem pmoved_good (y x : Stg) (hy : SGood y) (hx : SGood x) (j i : Nat) (hj : j < y.tags.length) (hi : i < x.tags.length) :
 Ans Tryz.prog 78 [.agg (encStg y), .int .i64 (j : Int), .agg (encStg x), .int .i64 (i : Int)] (.agg (encStg (setQ y j (quadB x.bytes i) (nth x.tags i)))) := by
 have hxz := hx.sok.size
 have hyz := hy.sok.size
 have hxm := hx.sok.small
 have hym := hy.sok.small
 have w1 : IntKind.wrap .i64 ((i : Int) * 16) = ((16 * i : Nat) : Int) := by rw [wrap_i64 (by omega) (by omega)]; omega
 have w2 : IntKind.wrap .i64 ((j : Int) * 16) = ((16 * j : Nat) : Int) := by rw [wrap_i64 (by omega) (by omega)]; omega
 cases ht : nth x.tags i with
 | false =>
   have hL := LoadPtr_no x hx i hi ht
   have hR := ReadQ_good x hx i hi
   have hW := WriteB_good y hy (by omega) (16 * j) (quadB x.bytes i) (by rw [quadB_size (by omega)]; omega)
   rw [wrS_quadword (quadB_size (by omega))] at hW
   generalize setQ y j (quadB x.bytes i) false = Z at hW
   generalize quadB x.bytes i = q at hR hW
   generalize ((16 * i : Nat) : Int) = ii at w1 hL hR
   generalize ((16 * j : Nat) : Int) = jj at w2 hW
   refine good_run [] mixed Tryz.func78 rfl Tryz.ntmps78 (rs := [.cell 8 91]) rfl (by decide +kernel) (by kernel_rfl) rfl ?_
   rw [startE_eq 47 _ _ _ rfl rfl]
   simp only [go_sem, seval, w1, w2]
   refine call_of (hL) ?_
   simp only [go_sem, seval, w1, w2]
   refine call_of (hR) ?_
   simp only [go_sem, seval, w1, w2]
   refine call_of (hW) ?_
   simp only [go_sem, seval, w1, w2]
 | true =>
   have hL := LoadPtr_good x hx.sok hx.ste i hi ht
   have hpi := hx.sok.ptr i hi ht
   have hpe := ptrIn_err hpi
   have hpb := ptrB_ptrIn hpi
   generalize (ptrIn (quadB x.bytes i)).1 = p at hL hpe hpb
   have hS := StoreP_good y hy j p hpe hj
   rw [hpb] at hS
   generalize setQ y j (quadB x.bytes i) true = Z at hS
   generalize ((16 * i : Nat) : Int) = ii at w1 hL
   generalize ((16 * j : Nat) : Int) = jj at w2 hS
   refine good_run [] mixed Tryz.func78 rfl Tryz.ntmps78 (rs := [.cell 8 91]) rfl (by decide +kernel) (by kernel_rfl) rfl ?_
   rw [startE_eq 47 _ _ _ rfl rfl]
   simp only [go_sem, seval, w1, w2]
   refine call_of (hL) ?_
   simp only [go_sem, seval, w1, w2]
   refine call_of (hS) ?_
   simp only [go_sem, seval, w1, w2]
theorem CloneStM (l : List Stg) (hl : l.length ≤ 1000000) : AnsM Tryz.prog 115 8 [] [.sl (l.map encStg)] (.ref 7 1) [(7, .obj 1 91 2 false true (l.map encStg))] := by
 refine goodM_runA [1202091007] [] mixed Tryz.func115 rfl Tryz.ntmps115 (rs := [.tmp 2]) rfl (by decide +kernel) (by kernel_rfl) ?_
 rw [startM_eq 8 _ _ _ _ rfl rfl]
 simp only [go_sem, seval]
 refine ifI (fun h0 => ?_) fun h0 => ?_
 · have hz : l = [] := List.eq_nil_of_length_eq_zero (by simpa using h0)
   simp only [go_sem, seval, hz]
   refine bothI ?_ ?_
   · simp only [go_sem, seval]
     simp
   · simp only [go_sem, seval, show (0 : Nat) ≤ maxLen by unfold maxLen; omega]
     simp
 · simp only [go_sem, seval, h0, show (0 + l.length) * 40 ≤ 140737488355328 by omega, show 0 + l.length ≤ maxLen by unfold maxLen; omega]
   simp
theorem ownM (s : St) (h1 : s.jobs.length ≤ 1000) (h2 : s.spaces.length ≤ 1000) : AnsM Tryz.prog 71 10 [] [.agg (encSt s)] (.agg [.ref 5 1, .ref 8 1]) [(5, .obj 1 91 2 false true (s.jobs.map encStg)), (8, .obj 1 91 2 false true (s.spaces.map encStg))] := by
 have hj := CloneStM s.jobs (by omega)
 have hp := CloneStM s.spaces (by omega)
 refine goodM_run [] mixed Tryz.func71 rfl Tryz.ntmps71 (rs := [.cell 2 37]) rfl (by decide +kernel) (by kernel_rfl) ?_
 rw [startM_eq 10 _ _ _ _ rfl rfl]
 simp only [go_sem, seval]
 refine callMD_of [] [5] (hj) ⟨rfl, rfl, rfl, by simp, by simp, by simp, by simp, rfl, rfl, rfl, onodup_of (l := [7]) rfl (by decide)⟩ ?_
 simp only [go_sem, seval]
 refine callMD_of [] [8] (hp) ⟨rfl, rfl, rfl, by simp, by simp, by simp, by simp, rfl, rfl, rfl, onodup_of (l := [7]) rfl (by decide)⟩ ?_
 simp only [go_sem, seval]
 refine ⟨by decide +kernel, ?_⟩
 simp
end Go.Proofs.YtbhgehhmjpipiaaGreatDoor.C12
