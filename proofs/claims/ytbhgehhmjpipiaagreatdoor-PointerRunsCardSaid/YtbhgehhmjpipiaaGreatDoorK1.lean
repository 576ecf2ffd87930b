/- Chapter 12: what the reference does by a pointer, with its errors. -/
import Derived.Test.YtbhgehhmjpipiaaGreatDoorP40
import Derived.Test.YtbhgehhmjpipiaaGreatDoorH6
set_option linter.unusedSimpArgs false
set_option linter.unusedVariables false
namespace Go.Proofs.YtbhgehhmjpipiaaGreatDoor.C12
open Go Go.Proofs Go.Proofs.YtbhgehhmjpipiaaGreatDoor.Ab Go.Proofs.YtbhgehhmjpipiaaGreatDoor.C10
set_option maxRecDepth 100000
attribute [local congr] ite_ctx
theorem rLoad_no (s : Stg) (h : SOk s) (k : Nat) (hk : k < s.tags.length) (ht : nth s.tags k = false) : Ans Tryz.prog 48 [.agg (encStg s), .int .i64 ((16 * k : Nat) : Int)] (.tup [.agg (encPtr ⟨0, 0, 0, 0⟩), .int .i64 22]) := by
 have h1 := h.size
 have h2 := h.small
 have hi := isQuad_good s k (by omega) (by omega)
 have d1 : IntKind.wrap .i64 (Int.tdiv ((16 * k : Nat) : Int) 16) = (k : Int) := by rw [Int.tdiv_eq_ediv_of_nonneg (by omega), wrap_i64 (by omega) (by omega)]; omega
 have hlt : (k : Int) < (s.tags.length : Int) := by omega
 generalize ((16 * k : Nat) : Int) = a at hi d1
 refine good_run [] mixed Tryz.func48 rfl Tryz.ntmps48 (rs := [.cell 4 97, .tmp 5]) rfl (by decide +kernel) (by kernel_rfl) rfl ?_
 rw [startE_eq 30 _ _ _ rfl rfl]
 simp only [go_sem, seval]
 refine call_of (hi) ?_
 simp only [go_sem, seval, Bool.not_true, Bool.not_false, d1, hlt, hk, ht]
set_option maxHeartbeats 8000000 in
theorem Write_good (s : Stg) (a : Nat) (d : ByteArray) (h0 : 0 < s.tags.length) (ht : s.tags.length ≤ 1000) (hs : s.bytes.size = 16 * s.tags.length) (h : a + d.size ≤ s.bytes.size) :
 Ans Tryz.prog 57 [.agg (encStg s), .int .i64 (a : Int), .str d] (.agg (encStg (wrS s a d))) := by
 have ho := OwnStgM s h0 ht
 have hp := Patched_good s.bytes a d h (by omega)
 have hz := clearT_zero s.tags a
 have hse : encStg (wrS s a d) = [.str (patch s.bytes a d), .sl ((clearT s.tags a d.size).map encB)] := rfl
 rw [hse]
 generalize patch s.bytes a d = pb at hp
 refine good_run [(4, [17, 18, 19, 20, 21, 22, 23, 24, 25, 26, 27, 28, 29], [])] mixed Tryz.func57 rfl Tryz.ntmps57 (rs := [.cell 6 91]) rfl (by decide +kernel) (by kernel_rfl) rfl ?_
 rw [startE_eq 31 _ _ _ rfl rfl]
 simp only [go_sem, seval]
 refine callM_of [] [10] (ho) ⟨rfl, rfl, rfl, by simp, by simp, by simp, by simp, rfl, rfl, rfl, onodup_of (l := [7]) rfl (by decide)⟩ ?_
 simp only [go_sem, seval]
 refine call_of (hp) ?_
 simp only [go_sem, seval]
 refine loop_by ([17, 18, 19, 20, 21, 22, 23, 24, 25, 26, 27, 28, 29], []) (fun i : Nat => [(.s 8, .int .i64 (i : Int)), (.o 10, .obj 1 4 1 false true ((clearT s.tags a i).map encB))]) (fun i => d.size - i) (fun i => i ≤ d.size) 0 rfl (Nat.zero_le _) ?_ ?_
 · simp only [go_sem, seval, hz]
 rintro c' st' hst i hi ih
 simp only [go_sem, seval]
 refine ifI (fun hlt => ?_) fun hlt => ?_
 · have w1 : IntKind.wrap .i64 ((a : Int) + (i : Int)) = ((a + i : Nat) : Int) := by rw [wrap_i64 (by omega) (by omega)]; omega
   have w2 : IntKind.wrap .i64 (Int.tdiv ((a + i : Nat) : Int) 16) = (((a + i) / 16 : Nat) : Int) := by rw [Int.tdiv_eq_ediv_of_nonneg (by omega), wrap_i64 (by omega) (by omega)]; omega
   have hix : (a + i) / 16 < s.tags.length := by omega
   have hcl := clearT_len s.tags a i
   have hst := clearT_step (l := s.tags) (a := a) (i := i) hix
   have hix1 : (a + i) / 16 < (clearT s.tags a i).length := by omega
   have hix2 : (((a + i) / 16 : Nat) : Int) < ((clearT s.tags a i).length : Int) := by omega
   have hix0 : (0 : Int) ≤ (((a + i) / 16 : Nat) : Int) := by omega
   have hq : (List.map encB (clearT s.tags a i))[(a + i) / 16]? = some [.bool (nth (clearT s.tags a i) ((a + i) / 16))] := at_map hix1
   have hset : (List.map encB (clearT s.tags a i)).set ((a + i) / 16) [.bool false] = List.map encB (clearT s.tags a (i + 1)) := by
    rw [← hst, List.map_set]; rfl
   generalize (a + i) / 16 = ix at w2 hix hix1 hix2 hix0 hq hset hst
   simp only [go_sem, seval, hlt, w1, w2, hix0, hix1, hix2, hq, Option.map_some, hset, Int.toNat_natCast]
   refine ih (i + 1) _ (by omega) (by omega) ?_
   simp only [go_sem, seval, wrap_succ (show i < 9223372036854775807 by omega)]
 · have hin : i = d.size := by omega
   subst hst
   simp only [go_sem, seval, hlt]
   rw [hin]
   try exact ⟨rfl, rfl⟩
abbrev BP (c : Case) (s : St) (o : COp) (r : AV) (e : Int) (t : St) : Prop := AnsM Tryz.prog 59 166 [.obj 1 91 2 false true (s.jobs.map encStg), .obj 1 91 2 false true (s.spaces.map encStg)] [.agg (encCase c), .agg [.ref 166 1, .ref 167 1], .agg (encCOp o)]
 (.tup [r, .int .i64 e]) [(166, .obj 1 91 2 false true (t.jobs.map encStg)), (167, .obj 1 91 2 false true (t.spaces.map encStg))]
theorem kinds5 {k : Int} (h : 4 ≤ k ∧ k ≤ 8) : k = 4 ∨ k = 5 ∨ k = 6 ∨ k = 7 ∨ k = 8 := by omega
theorem preBy {s : St} {j a : Nat} (hjs : j < s.jobs.length) (hok : SOk (nth s.jobs j)) (hat : a < (nth s.jobs j).tags.length) : IntKind.wrap .i64 ((a : Int) * 16) = ((16 * a : Nat) : Int) ∧ (List.map encStg s.jobs)[j]? = some (encStg (nth s.jobs j)) ∧ (j : Int) < (s.jobs.length : Int) := by
 have hm := hok.small
 exact ⟨by rw [wrap_i64 (by omega) (by omega)]; omega, at_map hjs, by omega⟩
set_option maxHeartbeats 32000000 in
theorem by_tag {c : Case} (s : St) (o : COp) (j a : Nat) (hjb : o.job = (j : Int)) (hk : 4 ≤ o.kind ∧ o.kind ≤ 8) (hat : atI o = (a : Int)) (hjs : j < s.jobs.length) (hj1 : s.jobs.length ≤ 1000) (hok : SOk (nth s.jobs j)) (hl : a < (nth s.jobs j).tags.length) (ht : nth (nth s.jobs j).tags a = false) : BP c s o (.agg [.nils, .nils]) 22 s := by
 obtain ⟨kind, job, src, dst, pointer, object, auth, data⟩ := o
 simp only at hjb hk
 subst hjb
 have hm := hok.small
 obtain ⟨w1, hqj, hjs2⟩ := preBy hjs hok hl
 have hL := rLoad_no (nth s.jobs j) hok a hl ht
 generalize ((16 * a : Nat) : Int) = ss at w1 hL
 rcases kinds5 hk with rfl | rfl | rfl | rfl | rfl
 all_goals
  simp [atI] at hat
  subst hat
  refine goodM_run [] mixed Tryz.func59 rfl Tryz.ntmps59 (rs := [.cell 6 37, .tmp 7]) rfl (show wfCode 168 _ = true by decide +kernel) (by kernel_rfl) ?_
  rw [startM_eq 166 _ _ _ _ rfl rfl]
  simp only [go_sem, seval, hjs, hjs2, hqj, Option.map_some, w1]
  refine call_of hL ?_
  simp only [go_sem, seval]
  simp
set_option maxHeartbeats 32000000 in
theorem by_kind {c : Case} (s : St) (o : COp) (j a : Nat) (p : Ptr) (hjb : o.job = (j : Int)) (hk : 4 ≤ o.kind ∧ o.kind ≤ 8) (hat : atI o = (a : Int)) (hjs : j < s.jobs.length) (hj1 : s.jobs.length ≤ 1000) (hok : SOk (nth s.jobs j)) (hl : a < (nth s.jobs j).tags.length) (ht : nth (nth s.jobs j).tags a = true) (hp : (ptrIn (quadB (nth s.jobs j).bytes a)).1 = p) (hn : ¬ p.kind = kdI o) : BP c s o (.agg [.nils, .nils]) 17 s := by
 obtain ⟨kind, job, src, dst, pointer, object, auth, data⟩ := o
 simp only at hjb hk
 subst hjb
 have hm := hok.small
 obtain ⟨w1, hqj, hjs2⟩ := preBy hjs hok hl
 have hL := rLoad_good (nth s.jobs j) hok a hl ht
 have hpe := ptrE_ok.1 (ptrIn_err (hok.ptr a hl ht))
 rw [hp] at hL hpe
 have w3 : IntKind.wrap .i64 (p.seg - 1) = p.seg - 1 := wrap_i64 (by omega) (by omega)
 generalize ((16 * a : Nat) : Int) = ss at w1 hL
 rcases kinds5 hk with rfl | rfl | rfl | rfl | rfl
 all_goals
  simp [atI] at hat
  simp [kdI] at hn
  subst hat
  have hkt := eq_false hn
  refine goodM_run [] mixed Tryz.func59 rfl Tryz.ntmps59 (rs := [.cell 6 37, .tmp 7]) rfl (show wfCode 168 _ = true by decide +kernel) (by kernel_rfl) ?_
  rw [startM_eq 166 _ _ _ _ rfl rfl]
  simp only [go_sem, seval, hjs, hjs2, hqj, Option.map_some, w1]
  refine call_of hL ?_
  simp only [go_sem, seval, hkt, not_false_eq_true, decide_true, w3]
  simp
set_option maxHeartbeats 32000000 in
theorem by_space {c : Case} (s : St) (o : COp) (j a : Nat) (p : Ptr) (hjb : o.job = (j : Int)) (hk : 5 ≤ o.kind ∧ o.kind ≤ 8) (hat : atI o = (a : Int)) (hjs : j < s.jobs.length) (hj1 : s.jobs.length ≤ 1000) (hok : SOk (nth s.jobs j)) (hl : a < (nth s.jobs j).tags.length) (ht : nth (nth s.jobs j).tags a = true) (hp : (ptrIn (quadB (nth s.jobs j).bytes a)).1 = p) (hn : p.kind = kdI o) (hrg : 0 ≤ p.seg - 1 ∧ p.seg - 1 < (c.sec.objects.length : Int)) (hsp : spB c (p.seg - 1) = false) : BP c s o (.agg [.nils, .nils]) 17 s := by
 obtain ⟨kind, job, src, dst, pointer, object, auth, data⟩ := o
 simp only at hjb hk
 subst hjb
 have hm := hok.small
 obtain ⟨w1, hqj, hjs2⟩ := preBy hjs hok hl
 have hL := rLoad_good (nth s.jobs j) hok a hl ht
 have hpe := ptrE_ok.1 (ptrIn_err (hok.ptr a hl ht))
 rw [hp] at hL hpe
 have w3 : IntKind.wrap .i64 (p.seg - 1) = p.seg - 1 := wrap_i64 (by omega) (by omega)
 have hI := IsSpace_good c (p.seg - 1) hrg
 rw [hsp] at hI
 generalize ((16 * a : Nat) : Int) = ss at w1 hL
 rcases kinds5 (k := kind) ⟨by omega, hk.2⟩ with rfl | rfl | rfl | rfl | rfl
 · omega
 all_goals
  simp [atI] at hat
  simp [kdI] at hn
  subst hat
  have hkt := eq_true hn
  refine goodM_run [] mixed Tryz.func59 rfl Tryz.ntmps59 (rs := [.cell 6 37, .tmp 7]) rfl (show wfCode 168 _ = true by decide +kernel) (by kernel_rfl) ?_
  rw [startM_eq 166 _ _ _ _ rfl rfl]
  simp only [go_sem, seval, hjs, hjs2, hqj, Option.map_some, w1]
  refine call_of hL ?_
  simp only [go_sem, seval, hkt, not_true_eq_false, decide_false, w3]
  refine call_of hI ?_
  simp only [go_sem, seval, Bool.not_false, Bool.not_true]
  simp
set_option maxHeartbeats 32000000 in
theorem by_auth {c : Case} (s : St) (o : COp) (j a : Nat) (p : Ptr) (hjb : o.job = (j : Int)) (hk : 5 ≤ o.kind ∧ o.kind ≤ 7) (hat : atI o = (a : Int)) (hjs : j < s.jobs.length) (hj1 : s.jobs.length ≤ 1000) (hok : SOk (nth s.jobs j)) (hl : a < (nth s.jobs j).tags.length) (ht : nth (nth s.jobs j).tags a = true) (hp : (ptrIn (quadB (nth s.jobs j).bytes a)).1 = p) (hn : p.kind = 1) (hsp : spB c (p.seg - 1) = true) (hi : incB p.auth (needI o) = false) : BP c s o (.agg [.nils, .nils]) 23 s := by
 obtain ⟨kind, job, src, dst, pointer, object, auth, data⟩ := o
 simp only at hjb hk
 subst hjb
 have hm := hok.small
 obtain ⟨w1, hqj, hjs2⟩ := preBy hjs hok hl
 have hL := rLoad_good (nth s.jobs j) hok a hl ht
 have hpe := ptrE_ok.1 (ptrIn_err (hok.ptr a hl ht))
 rw [hp] at hL hpe
 have w3 : IntKind.wrap .i64 (p.seg - 1) = p.seg - 1 := wrap_i64 (by omega) (by omega)
 have hI := IsSpace_good c (p.seg - 1) (spB_rng hsp)
 rw [hsp] at hI
 have hN := Includes_good p.auth
 have hkt := eq_true hn
 generalize ((16 * a : Nat) : Int) = ss at w1 hL
 rcases (by omega : kind = 5 ∨ kind = 6 ∨ kind = 7) with rfl | rfl | rfl
 all_goals
  simp [atI] at hat
  simp [needI] at hi
  subst hat
  refine goodM_run [] mixed Tryz.func59 rfl Tryz.ntmps59 (rs := [.cell 6 37, .tmp 7]) rfl (show wfCode 168 _ = true by decide +kernel) (by kernel_rfl) ?_
  rw [startM_eq 166 _ _ _ _ rfl rfl]
  simp only [go_sem, seval, hjs, hjs2, hqj, Option.map_some, w1]
  refine call_of hL ?_
  simp only [go_sem, seval, hkt, not_true_eq_false, decide_false, w3]
  refine call_of hI ?_
  simp only [go_sem, seval, Bool.not_true]
  refine call_of (hN _) ?_
  simp only [go_sem, seval, hi, Bool.not_true, Bool.not_false]
  simp
set_option maxHeartbeats 16000000 in
theorem by4_ok {c : Case} (s : St) (j at' : Nat) (dst ptr object auth : Int) (data : ByteArray) (hjs : j < s.jobs.length) (hj1 : s.jobs.length ≤ 1000) (hok : SOk (nth s.jobs j)) (hat : at' < (nth s.jobs j).tags.length)  (htag : nth (nth s.jobs j).tags at' = true) (p : Ptr) (hp : (ptrIn (quadB (nth s.jobs j).bytes at')).1 = p) (hk : p.kind = 1) (hau : 0 ≤ auth ∧ auth ≤ 1023) : BP c s ⟨4, (j : Int), (at' : Int), dst, ptr, object, auth, data⟩ (.agg [.ref 166 1, .ref 167 1]) 0 ⟨s.jobs.set j (setQ (nth s.jobs j) at' (ptrB ⟨p.kind, p.seg, p.off, andI p.auth auth⟩) true), s.spaces⟩ := by
 have hm := hok.small
 obtain ⟨w1, hqj, hjs2⟩ := preBy hjs hok hat
 have hL := rLoad_good (nth s.jobs j) hok at' hat htag
 have hpe := ptrE_ok.1 (ptrIn_err (hok.ptr at' hat htag))
 rw [hp] at hL hpe
 have hN := Includes_good p.auth 0
 have hbn : Go.bits .and .i64 p.auth 0 = 0 := zero_and hpe.2.2.2.1
 rw [show incB p.auth 0 = true by unfold incB; rw [hbn]; rfl] at hN
 have hrn := andI_rng hpe.2.2.2.1 hau
 have hS := Store_good (nth s.jobs j) at' ⟨p.kind, p.seg, p.off, andI p.auth auth⟩ (ptrE_ok.2 ⟨by simp only; omega, by simp only; omega, by simp only; omega, by simp only; omega, .inl hk⟩) hat (by omega) hok.size
 have hpe2 : encPtr ⟨p.kind, p.seg, p.off, andI p.auth auth⟩ = [.int .i64 p.kind, .int .i64 p.seg, .int .i64 p.off, .int .i64 (Go.bits .and .i64 p.auth auth)] := rfl
 rw [hpe2] at hS
 have hkt := eq_true hk
 have w3 : IntKind.wrap .i64 (p.seg - 1) = p.seg - 1 := wrap_i64 (by omega) (by omega)
 generalize setQ (nth s.jobs j) at' (ptrB ⟨p.kind, p.seg, p.off, andI p.auth auth⟩) true = X at hS
 have hset2 : (s.jobs.map encStg).set j [.str X.bytes, .sl (X.tags.map encB)] = (s.jobs.set j X).map encStg := List.map_set.symm
 generalize ((16 * at' : Nat) : Int) = ss at w1 hL hS
 refine goodM_run [] mixed Tryz.func59 rfl Tryz.ntmps59 (rs := [.cell 6 37, .tmp 7]) rfl (show wfCode 168 _ = true by decide +kernel) (by kernel_rfl) ?_
 rw [startM_eq 166 _ _ _ _ rfl rfl]
 simp only [go_sem, seval, hjs, hjs2, hqj, Option.map_some, w1]
 refine call_of (hL) ?_
 simp only [go_sem, seval, hkt, not_true_eq_false, decide_false, w3]
 refine call_of (hN) ?_
 simp only [go_sem, seval, Bool.not_true, hjs, hjs2, w1]
 refine callD_of (hS) ?_
 simp only [go_sem, seval, hjs, hjs2, hqj, Option.map_some, Int.toNat_natCast, hset2]
 refine ⟨by decide +kernel, ?_⟩
 simp
set_option maxHeartbeats 16000000 in
theorem by5_ok {c : Case} (s : St) (j at' : Nat) (dst ptr object auth : Int) (data : ByteArray) (hjs : j < s.jobs.length) (hj1 : s.jobs.length ≤ 1000) (hok : SOk (nth s.jobs j)) (hat : at' < (nth s.jobs j).tags.length) (dst' : Nat) (hd : dst = (dst' : Int)) (hdst : dst' < (nth s.jobs j).tags.length) (htag : nth (nth s.jobs j).tags at' = true) (p : Ptr) (hp : (ptrIn (quadB (nth s.jobs j).bytes at')).1 = p) (hk : p.kind = 1) (hsp : spB c (p.seg - 1) = true) (hi : incB p.auth 128 = true) : BP c s ⟨5, (j : Int), (at' : Int), dst, ptr, object, auth, data⟩ (.agg [.ref 166 1, .ref 167 1]) 0 ⟨s.jobs.set j (setQ (nth s.jobs j) dst' (ptrB ⟨0, p.seg, p.off, 0⟩) true), s.spaces⟩ := by
 subst hd
 have hm := hok.small
 obtain ⟨w1, hqj, hjs2⟩ := preBy hjs hok hat
 have hL := rLoad_good (nth s.jobs j) hok at' hat htag
 have hpe := ptrE_ok.1 (ptrIn_err (hok.ptr at' hat htag))
 rw [hp] at hL hpe
 have hrg := spB_rng hsp
 have hI := IsSpace_good c (p.seg - 1) hrg
 rw [hsp] at hI
 have hN := Includes_good p.auth 128
 rw [hi] at hN
 have hS := Store_good (nth s.jobs j) dst' ⟨0, p.seg, p.off, 0⟩ (ptrE_ok.2 ⟨by simp only; omega, by simp only; omega, by simp only; omega, by simp only; omega, .inr rfl⟩) hdst (by omega) hok.size
 have hpe2 : encPtr ⟨0, p.seg, p.off, 0⟩ = [.int .i64 0, .int .i64 p.seg, .int .i64 p.off, .int .i64 0] := rfl
 rw [hpe2] at hS
 have hkt := eq_true hk
 have w2 : IntKind.wrap .i64 ((dst' : Int) * 16) = ((16 * dst' : Nat) : Int) := by rw [wrap_i64 (by omega) (by omega)]; omega
 have w3 : IntKind.wrap .i64 (p.seg - 1) = p.seg - 1 := wrap_i64 (by omega) (by omega)
 generalize setQ (nth s.jobs j) dst' (ptrB ⟨0, p.seg, p.off, 0⟩) true = X at hS
 have hset2 : (s.jobs.map encStg).set j [.str X.bytes, .sl (X.tags.map encB)] = (s.jobs.set j X).map encStg := List.map_set.symm
 generalize ((16 * dst' : Nat) : Int) = dd at w2 hS
 generalize ((16 * at' : Nat) : Int) = ss at w1 hL
 refine goodM_run [] mixed Tryz.func59 rfl Tryz.ntmps59 (rs := [.cell 6 37, .tmp 7]) rfl (show wfCode 168 _ = true by decide +kernel) (by kernel_rfl) ?_
 rw [startM_eq 166 _ _ _ _ rfl rfl]
 simp only [go_sem, seval, hjs, hjs2, hqj, Option.map_some, w1]
 refine call_of (hL) ?_
 simp only [go_sem, seval, hkt, not_true_eq_false, decide_false, w3]
 refine call_of (hI) ?_
 simp only [go_sem, seval, Bool.not_true]
 refine call_of (hN) ?_
 simp only [go_sem, seval, Bool.not_true, w2, hjs, hjs2]
 refine callD_of (hS) ?_
 simp only [go_sem, seval, hjs, hjs2, hqj, Option.map_some, Int.toNat_natCast, hset2]
 refine ⟨by decide +kernel, ?_⟩
 simp
set_option maxHeartbeats 16000000 in
theorem by6_ok {c : Case} (s : St) (j at' : Nat) (src dst object auth : Int) (data : ByteArray) (hjs : j < s.jobs.length) (hj1 : s.jobs.length ≤ 1000) (hok : SOk (nth s.jobs j)) (hat : at' < (nth s.jobs j).tags.length) (src' dst' o : Nat) (hsd : src = (src' : Int)) (hd : dst = (dst' : Int)) (hsrc : src' < (nth s.jobs j).tags.length) (hdst : dst' < (nth s.spaces o).tags.length) (hs1 : s.spaces.length ≤ 1000) (hos : o < s.spaces.length) (hoz : (nth s.spaces o).bytes.size = 16 * (nth s.spaces o).tags.length) (hot : (nth s.spaces o).tags.length ≤ 1000) (htag : nth (nth s.jobs j).tags at' = true) (p : Ptr) (hp : (ptrIn (quadB (nth s.jobs j).bytes at')).1 = p) (ho : p.seg - 1 = (o : Int)) (hk : p.kind = 1) (hsp : spB c (p.seg - 1) = true) (hi : incB p.auth 128 = true) : BP c s ⟨6, (j : Int), src, dst, (at' : Int), object, auth, data⟩ (.agg [.ref 166 1, .ref 167 1]) 0 ⟨s.jobs, s.spaces.set o (setQ (nth s.spaces o) dst' (quadB (nth s.jobs j).bytes src') (nth (nth s.jobs j).tags src'))⟩ := by
 subst hsd hd
 have hm := hok.small
 obtain ⟨w1, hqj, hjs2⟩ := preBy hjs hok hat
 have hL := rLoad_good (nth s.jobs j) hok at' hat htag
 have hpe := ptrE_ok.1 (ptrIn_err (hok.ptr at' hat htag))
 rw [hp] at hL hpe
 have hrg := spB_rng hsp
 have hI := IsSpace_good c (p.seg - 1) hrg
 rw [hsp, ho] at hI
 have hN := Includes_good p.auth 128
 rw [hi] at hN
 have hS := moved_good (nth s.jobs j) (nth s.spaces o) src' dst' hsrc hok.size (by omega) hdst hoz hot
 have hkt := eq_true hk
 have w3 : IntKind.wrap .i64 (p.seg - 1) = (o : Int) := by rw [ho]; exact wrap_i64 (by omega) (by omega)
 have hqo : (List.map encStg s.spaces)[o]? = some (encStg (nth s.spaces o)) := at_map hos
 have hos2 : (o : Int) < (s.spaces.length : Int) := by omega
 generalize setQ (nth s.spaces o) dst' (quadB (nth s.jobs j).bytes src') (nth (nth s.jobs j).tags src') = X at hS
 have hset2 : (s.spaces.map encStg).set o [.str X.bytes, .sl (X.tags.map encB)] = (s.spaces.set o X).map encStg := List.map_set.symm
 generalize ((16 * at' : Nat) : Int) = ss at w1 hL
 refine goodM_run [] mixed Tryz.func59 rfl Tryz.ntmps59 (rs := [.cell 6 37, .tmp 7]) rfl (show wfCode 168 _ = true by decide +kernel) (by kernel_rfl) ?_
 rw [startM_eq 166 _ _ _ _ rfl rfl]
 simp only [go_sem, seval, hjs, hjs2, hqj, Option.map_some, w1]
 refine call_of (hL) ?_
 simp only [go_sem, seval, hkt, not_true_eq_false, decide_false, w3]
 refine call_of (hI) ?_
 simp only [go_sem, seval, Bool.not_true]
 refine call_of (hN) ?_
 simp only [go_sem, seval, Bool.not_true, hos, hos2, hqo, Option.map_some, hjs, hjs2]
 refine callD_of (hS) ?_
 simp only [go_sem, seval, hjs, hjs2, hqj, hos, hos2, hqo, Option.map_some, Int.toNat_natCast, hset2]
 refine ⟨by decide +kernel, ?_⟩
 simp
set_option maxHeartbeats 16000000 in
theorem by7_ok {c : Case} (s : St) (j at' : Nat) (src dst object auth : Int) (data : ByteArray) (hjs : j < s.jobs.length) (hj1 : s.jobs.length ≤ 1000) (hok : SOk (nth s.jobs j)) (hat : at' < (nth s.jobs j).tags.length) (src' dst' o : Nat) (hsd : src = (src' : Int)) (hd : dst = (dst' : Int)) (hsrc : src' < (nth s.spaces o).tags.length) (hdst : dst' < (nth s.jobs j).tags.length) (hs1 : s.spaces.length ≤ 1000) (hos : o < s.spaces.length) (hoz : (nth s.spaces o).bytes.size = 16 * (nth s.spaces o).tags.length) (hot : (nth s.spaces o).tags.length ≤ 1000) (htag : nth (nth s.jobs j).tags at' = true) (p : Ptr) (hp : (ptrIn (quadB (nth s.jobs j).bytes at')).1 = p) (ho : p.seg - 1 = (o : Int)) (hk : p.kind = 1) (hsp : spB c (p.seg - 1) = true) (hi : incB p.auth 32 = true) : BP c s ⟨7, (j : Int), src, dst, (at' : Int), object, auth, data⟩ (.agg [.ref 166 1, .ref 167 1]) 0 ⟨s.jobs.set j (setQ (nth s.jobs j) dst' (quadB (nth s.spaces o).bytes src') (nth (nth s.spaces o).tags src')), s.spaces⟩ := by
 subst hsd hd
 have hm := hok.small
 obtain ⟨w1, hqj, hjs2⟩ := preBy hjs hok hat
 have hL := rLoad_good (nth s.jobs j) hok at' hat htag
 have hpe := ptrE_ok.1 (ptrIn_err (hok.ptr at' hat htag))
 rw [hp] at hL hpe
 have hrg := spB_rng hsp
 have hI := IsSpace_good c (p.seg - 1) hrg
 rw [hsp, ho] at hI
 have hN := Includes_good p.auth 32
 rw [hi] at hN
 have hS := moved_good (nth s.spaces o) (nth s.jobs j) src' dst' hsrc hoz hot hdst hok.size (by omega)
 have hkt := eq_true hk
 have w3 : IntKind.wrap .i64 (p.seg - 1) = (o : Int) := by rw [ho]; exact wrap_i64 (by omega) (by omega)
 have hqo : (List.map encStg s.spaces)[o]? = some (encStg (nth s.spaces o)) := at_map hos
 have hos2 : (o : Int) < (s.spaces.length : Int) := by omega
 generalize setQ (nth s.jobs j) dst' (quadB (nth s.spaces o).bytes src') (nth (nth s.spaces o).tags src') = X at hS
 have hset2 : (s.jobs.map encStg).set j [.str X.bytes, .sl (X.tags.map encB)] = (s.jobs.set j X).map encStg := List.map_set.symm
 generalize ((16 * at' : Nat) : Int) = ss at w1 hL
 refine goodM_run [] mixed Tryz.func59 rfl Tryz.ntmps59 (rs := [.cell 6 37, .tmp 7]) rfl (show wfCode 168 _ = true by decide +kernel) (by kernel_rfl) ?_
 rw [startM_eq 166 _ _ _ _ rfl rfl]
 simp only [go_sem, seval, hjs, hjs2, hqj, Option.map_some, w1]
 refine call_of (hL) ?_
 simp only [go_sem, seval, hkt, not_true_eq_false, decide_false, w3]
 refine call_of (hI) ?_
 simp only [go_sem, seval, Bool.not_true]
 refine call_of (hN) ?_
 simp only [go_sem, seval, Bool.not_true, hos, hos2, hqo, Option.map_some, hjs, hjs2]
 refine callD_of (hS) ?_
 simp only [go_sem, seval, hjs, hjs2, hqj, hos, hos2, hqo, Option.map_some, Int.toNat_natCast, hset2]
 refine ⟨by decide +kernel, ?_⟩
 simp
set_option maxHeartbeats 16000000 in
theorem by8_ok {c : Case} (s : St) (j at' : Nat) (src dst object auth : Int) (data : ByteArray) (hjs : j < s.jobs.length) (hj1 : s.jobs.length ≤ 1000) (hok : SOk (nth s.jobs j)) (hat : at' < (nth s.jobs j).tags.length) (dst' o : Nat) (hd : dst = (dst' : Int)) (hs1 : s.spaces.length ≤ 1000) (hos : o < s.spaces.length) (hoz : (nth s.spaces o).bytes.size = 16 * (nth s.spaces o).tags.length) (hot : (nth s.spaces o).tags.length ≤ 1000) (ho0 : 0 < (nth s.spaces o).tags.length) (hw : dst' + data.size ≤ (nth s.spaces o).bytes.size) (htag : nth (nth s.jobs j).tags at' = true) (p : Ptr) (hp : (ptrIn (quadB (nth s.jobs j).bytes at')).1 = p) (ho : p.seg - 1 = (o : Int)) (hk : p.kind = 0) (hsp : spB c (p.seg - 1) = true) : BP c s ⟨8, (j : Int), src, dst, (at' : Int), object, auth, data⟩ (.agg [.ref 166 1, .ref 167 1]) 0 ⟨s.jobs, s.spaces.set o (wrS (nth s.spaces o) dst' data)⟩ := by
 subst hd
 have hm := hok.small
 obtain ⟨w1, hqj, hjs2⟩ := preBy hjs hok hat
 have hL := rLoad_good (nth s.jobs j) hok at' hat htag
 have hpe := ptrE_ok.1 (ptrIn_err (hok.ptr at' hat htag))
 rw [hp] at hL hpe
 have hrg := spB_rng hsp
 have hI := IsSpace_good c (p.seg - 1) hrg
 rw [hsp, ho] at hI
 have hN := Includes_good p.auth 0
 have hbn : Go.bits .and .i64 p.auth 0 = 0 := zero_and hpe.2.2.2.1
 rw [show incB p.auth 0 = true by unfold incB; rw [hbn]; rfl] at hN
 have hS := Write_good (nth s.spaces o) dst' data ho0 hot hoz hw
 have hkt := eq_true hk
 have w3 : IntKind.wrap .i64 (p.seg - 1) = (o : Int) := by rw [ho]; exact wrap_i64 (by omega) (by omega)
 have hqo : (List.map encStg s.spaces)[o]? = some (encStg (nth s.spaces o)) := at_map hos
 have hos2 : (o : Int) < (s.spaces.length : Int) := by omega
 generalize wrS (nth s.spaces o) dst' data = X at hS
 have hset2 : (s.spaces.map encStg).set o [.str X.bytes, .sl (X.tags.map encB)] = (s.spaces.set o X).map encStg := List.map_set.symm
 generalize ((16 * at' : Nat) : Int) = ss at w1 hL
 refine goodM_run [] mixed Tryz.func59 rfl Tryz.ntmps59 (rs := [.cell 6 37, .tmp 7]) rfl (show wfCode 168 _ = true by decide +kernel) (by kernel_rfl) ?_
 rw [startM_eq 166 _ _ _ _ rfl rfl]
 simp only [go_sem, seval, hjs, hjs2, hqj, Option.map_some, w1]
 refine call_of (hL) ?_
 simp only [go_sem, seval, hkt, not_true_eq_false, decide_false, w3]
 refine call_of (hI) ?_
 simp only [go_sem, seval, Bool.not_true]
 refine call_of (hN) ?_
 simp only [go_sem, seval, Bool.not_true, hos, hos2, hqo, Option.map_some, hjs, hjs2]
 refine callD_of (hS) ?_
 simp only [go_sem, seval, hjs, hjs2, hqj, hos, hos2, hqo, Option.map_some, Int.toNat_natCast, hset2]
 refine ⟨by decide +kernel, ?_⟩
 simp
end Go.Proofs.YtbhgehhmjpipiaaGreatDoor.C12
