/- Chapter 12: pointers in bytes; storages that are right, their loads and pointers; states that are looked at, and their own copies. -/
import Derived.Test.YtbhgehhmjpipiaaGreatDoorG1
set_option linter.unusedSimpArgs false
set_option linter.unusedVariables false
namespace Go.Proofs.YtbhgehhmjpipiaaGreatDoor.C12
open Go Go.Proofs Go.Proofs.YtbhgehhmjpipiaaGreatDoor.Ab Go.Proofs.YtbhgehhmjpipiaaGreatDoor.C10
set_option maxRecDepth 100000
attribute [local congr] ite_ctx
theorem big_step {L : List UInt8} {i : Nat} (h : i < L.length) : bigL (L.take (i + 1)) = bigL (L.take i) * 256 + ((L.getD i 0).toNat : Int) := by
 rw [List.take_add_one, List.getElem?_eq_getElem h, List.getD_eq_getElem?_getD, List.getElem?_eq_getElem h]
 exact bigGo_snoc _ _ _
theorem big_rng {L : List UInt8} {i : Nat} (h : i ≤ 5) : 0 ≤ bigL (L.take i) ∧ bigL (L.take i) < 1099511627776 := by
 have h1 := bigL_rng (L.take i)
 have hl : (L.take i).length ≤ 5 := by rw [List.length_take]; omega
 have hp : ∀ n : Nat, n ≤ 5 → (256 : Int) ^ n ≤ 1099511627776 := fun n hn => by
  match n, hn with
  | 0, _ => decide
  | 1, _ => decide
  | 2, _ => decide
  | 3, _ => decide
  | 4, _ => decide
  | 5, _ => decide
 have := hp _ hl
 omega
theorem byteAt_rng (b : ByteArray) (i : Nat) : 0 ≤ byteAt b i ∧ byteAt b i < 256 := by
 have : (b.data.toList.getD i 0).toNat < 256 := UInt8.toNat_lt _
 unfold byteAt; omega
theorem or_byte {n b : Int} (hn : 0 ≤ n ∧ n < 1099511627776) (hb : 0 ≤ b ∧ b < 256) : Go.bits .or .i64 (n * 256) b = n * 256 + b := by
 obtain ⟨n, rfl⟩ : ∃ m : Nat, n = (m : Int) := ⟨n.toNat, by omega⟩
 obtain ⟨b, rfl⟩ : ∃ m : Nat, b = (m : Int) := ⟨b.toNat, by omega⟩
 have e1 : ((n : Int) * 256) = ((n * 256 : Nat) : Int) := by omega
 have h1 : (BitVec.ofInt 64 ((n * 256 : Nat) : Int)).toNat = n * 256 := by
  rw [BitVec.ofInt_natCast, BitVec.toNat_ofNat]; exact Nat.mod_eq_of_lt (by omega)
 have h2 : (BitVec.ofInt 64 (b : Int)).toNat = b := by
  rw [BitVec.ofInt_natCast, BitVec.toNat_ofNat]; exact Nat.mod_eq_of_lt (by omega)
 rw [e1]
 show IntKind.i64.wrap ((BitVec.ofInt 64 ((n * 256 : Nat) : Int) ||| BitVec.ofInt 64 (b : Int)).toNat : Int) = _
 rw [BitVec.toNat_or, h1, h2]
 have h3 : n * 256 ||| b = n * 256 + b := by
  have := Nat.shiftLeft_add_eq_or_of_lt (i := 8) (show b < 2 ^ 8 by omega) n
  rw [Nat.shiftLeft_eq] at this
  exact this.symm
 rw [h3, wrap_i64 (by omega) (by omega)]
 omega
theorem Big_good (s : ByteArray) (a n : Nat) (hn : n ≤ 6) (h : a + n ≤ s.size) (hs : s.size ≤ 1000000) : Ans Tryz.prog 134 [.str s, .int .i64 (a : Int), .int .i64 (n : Int)] (.int .i64 (bigL (((toL s).drop a).take n))) := by
 refine good_run [(3, [9, 10, 11, 12, 13, 14, 15, 16, 17, 18, 19, 20, 21, 22], [])] mixed Tryz.func134 rfl Tryz.ntmps134 (rs := [.tmp 6]) rfl (by decide +kernel) (by kernel_rfl) rfl ?_
 rw [startE_eq 24 _ _ _ rfl rfl]
 simp only [go_sem, seval]
 refine loop_by ([9, 10, 11, 12, 13, 14, 15, 16, 17, 18, 19, 20, 21, 22], []) (fun i : Nat => [(.s 8, .int .i64 (i : Int)), (.s 7, .int .i64 (bigL (((toL s).drop a).take i)))]) (fun i => n - i) (fun i => i ≤ n) 0 rfl (Nat.zero_le _) rfl ?_
 rintro c' st' hst i hi ih
 simp only [go_sem, seval]
 refine ifI (fun hlt => ?_) fun hlt => ?_
 · have hln : i < ((toL s).drop a).length := by rw [List.length_drop, toL_len]; omega
   have hstep := big_step hln
   have hr := big_rng (L := (toL s).drop a) (i := i) (by omega)
   have hb : ((((toL s).drop a).getD i 0).toNat : Int) = byteAt s (a + i) := by
    rw [List.getD_eq_getElem?_getD, List.getElem?_drop, ← List.getD_eq_getElem?_getD]; rfl
   rw [hb] at hstep
   have hbr := byteAt_rng s (a + i)
   have w1 : IntKind.wrap .i64 (bigL (((toL s).drop a).take i) * 256) = bigL (((toL s).drop a).take i) * 256 := wrap_i64 (by omega) (by omega)
   have w2 : IntKind.wrap .i64 ((a : Int) + (i : Int)) = ((a + i : Nat) : Int) := by rw [wrap_i64 (by omega) (by omega)]; omega
   have w3 : IntKind.wrap .i64 (byteAt s (a + i)) = byteAt s (a + i) := wrap_i64 (by omega) (by omega)
   have w4 : IntKind.wrap .i64 (bigL (((toL s).drop a).take i) * 256 + byteAt s (a + i)) = bigL (((toL s).drop a).take (i + 1)) := by rw [hstep]; exact wrap_i64 (by omega) (by omega)
   have c0 : (0 : Int) ≤ ((a + i : Nat) : Int) := by omega
   have c1 : ((a + i : Nat) : Int) < (s.size : Int) := by omega
   simp only [go_sem, seval, hlt, w1, w2, c0, c1, Int.toNat_natCast, Tryz.underlying5, w3, w4]
   refine ih (i + 1) _ (by omega) (by omega) ?_
   simp only [go_sem, seval, wrap_succ (show i < 9223372036854775807 by omega)]
 · have hin : i = n := by omega
   subst hst hin
   simp only [go_sem, seval, hlt]
theorem number_good (s : ByteArray) (h : s.size ≤ 6) : Ans Tryz.prog 163 [.str s] (.int .i64 (bigL (toL s))) := by
 refine good_run [(3, [4, 8, 9, 10, 11, 12, 13, 14, 15, 16, 17], [])] mixed Tryz.func163 rfl Tryz.ntmps163 (rs := [.tmp 2]) rfl (by decide +kernel) (by kernel_rfl) rfl ?_
 rw [startE_eq 19 _ _ _ rfl rfl]
 simp only [go_sem, seval]
 refine loop_by ([4, 8, 9, 10, 11, 12, 13, 14, 15, 16, 17], []) (fun i : Nat => [(.s 7, .int .i64 (i : Int)), (.s 3, .int .i64 (bigL ((toL s).take i)))]) (fun i => s.size - i) (fun i => i ≤ s.size) 0 rfl (Nat.zero_le _) rfl ?_
 rintro c' st' hst i hi ih
 simp only [go_sem, seval]
 refine ifI (fun hlt => ?_) fun hlt => ?_
 · have hln : i < (toL s).length := by rw [toL_len]; omega
   have hstep := big_step hln
   have hr := big_rng (L := toL s) (i := i) (by omega)
   have hb : (((toL s).getD i 0).toNat : Int) = byteAt s i := rfl
   rw [hb] at hstep
   have hbr := byteAt_rng s i
   have w1 : IntKind.wrap .i64 (bigL ((toL s).take i) * 256) = bigL ((toL s).take i) * 256 := wrap_i64 (by omega) (by omega)
   have w3 : IntKind.wrap .i64 (byteAt s i) = byteAt s i := wrap_i64 (by omega) (by omega)
   have w4 : Go.bits .or .i64 (bigL ((toL s).take i) * 256) (byteAt s i) = bigL ((toL s).take (i + 1)) := by rw [hstep]; exact or_byte hr hbr
   simp only [go_sem, seval, hlt, show (2 : Int) ^ min 8 64 = 256 from rfl, w1, Int.toNat_natCast, Tryz.underlying5, w3, w4]
   refine ih (i + 1) _ (by omega) (by omega) ?_
   simp only [go_sem, seval, wrap_succ (show i < 9223372036854775807 by omega)]
 · have hin : i = s.size := by omega
   subst hst
   simp only [go_sem, seval, hlt]
   rw [hin, List.take_of_length_le (by rw [toL_len]; omega)]
set_option maxHeartbeats 4000000 in
theorem rPtrErr_good (p : Ptr) : Ans Tryz.prog 135 [.agg (encPtr p)] (.int .i64 (ptrE p)) := by
 have hdef : ptrE p = if inB p.kind 0 2 = false then 4 else if inB p.seg 0 1099511627775 = false ∨ inB p.off 0 16777215 = false ∨ inB p.auth 0 1023 = false then 3 else if p.kind ≠ 1 ∧ p.auth ≠ 0 then 5 else 0 := by
  unfold ptrE inB
  simp only [decide_eq_false_iff_not]
 have hw1 := Within_good p.kind 0 2
 have hw2 := Within_good p.seg 0 1099511627775
 have hw3 := Within_good p.off 0 16777215
 have hw4 := Within_good p.auth 0 1023
 generalize ptrE p = R at hdef
 generalize inB p.kind 0 2 = b1 at hdef hw1
 generalize inB p.seg 0 1099511627775 = b2 at hdef hw2
 generalize inB p.off 0 16777215 = b3 at hdef hw3
 generalize inB p.auth 0 1023 = b4 at hdef hw4
 cases b1 with
 | false =>
   rw [if_pos rfl] at hdef
   subst hdef
   refine good_run [] mixed Tryz.func135 rfl Tryz.ntmps135 (rs := [.tmp 2]) rfl (by decide +kernel) (by kernel_rfl) rfl ?_
   rw [startE_eq 36 _ _ _ rfl rfl]
   simp only [go_sem, seval]
   refine call_of (hw1) ?_
   simp only [go_sem, seval, Bool.not_true, Bool.not_false]
 | true =>
 rw [if_neg (by decide)] at hdef
 cases b2 with
 | false =>
   rw [if_pos (.inl rfl)] at hdef
   subst hdef
   refine good_run [] mixed Tryz.func135 rfl Tryz.ntmps135 (rs := [.tmp 2]) rfl (by decide +kernel) (by kernel_rfl) rfl ?_
   rw [startE_eq 36 _ _ _ rfl rfl]
   simp only [go_sem, seval]
   refine call_of (hw1) ?_
   simp only [go_sem, seval, Bool.not_true, Bool.not_false]
   refine call_of (hw2) ?_
   simp only [go_sem, seval, Bool.not_true, Bool.not_false]
 | true =>
 cases b3 with
 | false =>
   rw [if_pos (.inr (.inl rfl))] at hdef
   subst hdef
   refine good_run [] mixed Tryz.func135 rfl Tryz.ntmps135 (rs := [.tmp 2]) rfl (by decide +kernel) (by kernel_rfl) rfl ?_
   rw [startE_eq 36 _ _ _ rfl rfl]
   simp only [go_sem, seval]
   refine call_of (hw1) ?_
   simp only [go_sem, seval, Bool.not_true, Bool.not_false]
   refine call_of (hw2) ?_
   simp only [go_sem, seval, Bool.not_true, Bool.not_false]
   refine call_of (hw3) ?_
   simp only [go_sem, seval, Bool.not_true, Bool.not_false]
 | true =>
 cases b4 with
 | false =>
   rw [if_pos (.inr (.inr rfl))] at hdef
   subst hdef
   refine good_run [] mixed Tryz.func135 rfl Tryz.ntmps135 (rs := [.tmp 2]) rfl (by decide +kernel) (by kernel_rfl) rfl ?_
   rw [startE_eq 36 _ _ _ rfl rfl]
   simp only [go_sem, seval]
   refine call_of (hw1) ?_
   simp only [go_sem, seval, Bool.not_true, Bool.not_false]
   refine call_of (hw2) ?_
   simp only [go_sem, seval, Bool.not_true, Bool.not_false]
   refine call_of (hw3) ?_
   simp only [go_sem, seval, Bool.not_true, Bool.not_false]
   refine call_of (hw4) ?_
   simp only [go_sem, seval, Bool.not_true, Bool.not_false]
 | true =>
 rw [if_neg (by decide)] at hdef
 refine Classical.byCases (fun k1 : p.kind = 1 => ?_) fun k1 => ?_
 · rw [if_neg (fun q => q.1 k1)] at hdef
   subst hdef
   have k1t := eq_true k1
   refine Classical.byCases (fun a0 : p.auth = 0 => ?_) fun a0 => ?_
   · have a0t := eq_true a0
     refine good_run [] mixed Tryz.func135 rfl Tryz.ntmps135 (rs := [.tmp 2]) rfl (by decide +kernel) (by kernel_rfl) rfl ?_
     rw [startE_eq 36 _ _ _ rfl rfl]
     simp only [go_sem, seval]
     refine call_of (hw1) ?_
     simp only [go_sem, seval, Bool.not_true, Bool.not_false]
     refine call_of (hw2) ?_
     simp only [go_sem, seval, Bool.not_true, Bool.not_false]
     refine call_of (hw3) ?_
     simp only [go_sem, seval, Bool.not_true, Bool.not_false]
     refine call_of (hw4) ?_
     simp only [go_sem, seval, Bool.not_true, Bool.not_false, k1t, a0t, not_true_eq_false, decide_false]
   · have a0t := eq_false a0
     refine good_run [] mixed Tryz.func135 rfl Tryz.ntmps135 (rs := [.tmp 2]) rfl (by decide +kernel) (by kernel_rfl) rfl ?_
     rw [startE_eq 36 _ _ _ rfl rfl]
     simp only [go_sem, seval]
     refine call_of (hw1) ?_
     simp only [go_sem, seval, Bool.not_true, Bool.not_false]
     refine call_of (hw2) ?_
     simp only [go_sem, seval, Bool.not_true, Bool.not_false]
     refine call_of (hw3) ?_
     simp only [go_sem, seval, Bool.not_true, Bool.not_false]
     refine call_of (hw4) ?_
     simp only [go_sem, seval, Bool.not_true, Bool.not_false, k1t, a0t, not_true_eq_false, decide_false, not_false_eq_true, decide_true]
 · have k1t := eq_false k1
   refine Classical.byCases (fun a0 : p.auth = 0 => ?_) fun a0 => ?_
   · rw [if_neg (fun q => q.2 a0)] at hdef
     subst hdef
     have a0t := eq_true a0
     refine good_run [] mixed Tryz.func135 rfl Tryz.ntmps135 (rs := [.tmp 2]) rfl (by decide +kernel) (by kernel_rfl) rfl ?_
     rw [startE_eq 36 _ _ _ rfl rfl]
     simp only [go_sem, seval]
     refine call_of (hw1) ?_
     simp only [go_sem, seval, Bool.not_true, Bool.not_false]
     refine call_of (hw2) ?_
     simp only [go_sem, seval, Bool.not_true, Bool.not_false]
     refine call_of (hw3) ?_
     simp only [go_sem, seval, Bool.not_true, Bool.not_false]
     refine call_of (hw4) ?_
     simp only [go_sem, seval, Bool.not_true, Bool.not_false, k1t, a0t, not_true_eq_false, decide_false, not_false_eq_true, decide_true]
   · rw [if_pos ⟨k1, a0⟩] at hdef
     subst hdef
     have a0t := eq_false a0
     refine good_run [] mixed Tryz.func135 rfl Tryz.ntmps135 (rs := [.tmp 2]) rfl (by decide +kernel) (by kernel_rfl) rfl ?_
     rw [startE_eq 36 _ _ _ rfl rfl]
     simp only [go_sem, seval]
     refine call_of (hw1) ?_
     simp only [go_sem, seval, Bool.not_true, Bool.not_false]
     refine call_of (hw2) ?_
     simp only [go_sem, seval, Bool.not_true, Bool.not_false]
     refine call_of (hw3) ?_
     simp only [go_sem, seval, Bool.not_true, Bool.not_false]
     refine call_of (hw4) ?_
     simp only [go_sem, seval, Bool.not_true, Bool.not_false, k1t, a0t, not_false_eq_true, decide_true]
set_option maxHeartbeats 4000000 in
theorem CheckPtr_good (p : Ptr) : Ans Tryz.prog 119 [.agg (encPtr p)] (.int .i64 (ptrE p)) := by
 have hdef : ptrE p = if inB p.kind 0 2 = false then 4 else if inB p.seg 0 1099511627775 = false ∨ inB p.off 0 16777215 = false ∨ inB p.auth 0 1023 = false then 3 else if p.kind ≠ 1 ∧ p.auth ≠ 0 then 5 else 0 := by
  unfold ptrE inB
  simp only [decide_eq_false_iff_not]
 have hw1 := within176_good p.kind 0 2
 have hw2 := within176_good p.seg 0 1099511627775
 have hw3 := within176_good p.off 0 16777215
 have hw4 := within176_good p.auth 0 1023
 generalize ptrE p = R at hdef
 generalize inB p.kind 0 2 = b1 at hdef hw1
 generalize inB p.seg 0 1099511627775 = b2 at hdef hw2
 generalize inB p.off 0 16777215 = b3 at hdef hw3
 generalize inB p.auth 0 1023 = b4 at hdef hw4
 cases b1 with
 | false =>
   rw [if_pos rfl] at hdef
   subst hdef
   refine good_run [] mixed Tryz.func119 rfl Tryz.ntmps119 (rs := [.tmp 2]) rfl (by decide +kernel) (by kernel_rfl) rfl ?_
   rw [startE_eq 32 _ _ _ rfl rfl]
   simp only [go_sem, seval]
   refine call_of (hw1) ?_
   simp only [go_sem, seval, Bool.not_true, Bool.not_false]
 | true =>
 rw [if_neg (by decide)] at hdef
 cases b2 with
 | false =>
   rw [if_pos (.inl rfl)] at hdef
   subst hdef
   refine good_run [] mixed Tryz.func119 rfl Tryz.ntmps119 (rs := [.tmp 2]) rfl (by decide +kernel) (by kernel_rfl) rfl ?_
   rw [startE_eq 32 _ _ _ rfl rfl]
   simp only [go_sem, seval]
   refine call_of (hw1) ?_
   simp only [go_sem, seval, Bool.not_true, Bool.not_false]
   refine call_of (hw2) ?_
   simp only [go_sem, seval, Bool.not_true, Bool.not_false]
 | true =>
 cases b3 with
 | false =>
   rw [if_pos (.inr (.inl rfl))] at hdef
   subst hdef
   refine good_run [] mixed Tryz.func119 rfl Tryz.ntmps119 (rs := [.tmp 2]) rfl (by decide +kernel) (by kernel_rfl) rfl ?_
   rw [startE_eq 32 _ _ _ rfl rfl]
   simp only [go_sem, seval]
   refine call_of (hw1) ?_
   simp only [go_sem, seval, Bool.not_true, Bool.not_false]
   refine call_of (hw2) ?_
   simp only [go_sem, seval, Bool.not_true, Bool.not_false]
   refine call_of (hw3) ?_
   simp only [go_sem, seval, Bool.not_true, Bool.not_false]
 | true =>
 cases b4 with
 | false =>
   rw [if_pos (.inr (.inr rfl))] at hdef
   subst hdef
   refine good_run [] mixed Tryz.func119 rfl Tryz.ntmps119 (rs := [.tmp 2]) rfl (by decide +kernel) (by kernel_rfl) rfl ?_
   rw [startE_eq 32 _ _ _ rfl rfl]
   simp only [go_sem, seval]
   refine call_of (hw1) ?_
   simp only [go_sem, seval, Bool.not_true, Bool.not_false]
   refine call_of (hw2) ?_
   simp only [go_sem, seval, Bool.not_true, Bool.not_false]
   refine call_of (hw3) ?_
   simp only [go_sem, seval, Bool.not_true, Bool.not_false]
   refine call_of (hw4) ?_
   simp only [go_sem, seval, Bool.not_true, Bool.not_false]
 | true =>
 rw [if_neg (by decide)] at hdef
 refine Classical.byCases (fun k1 : p.kind = 1 => ?_) fun k1 => ?_
 · rw [if_neg (fun q => q.1 k1)] at hdef
   subst hdef
   have k1t := eq_true k1
   refine Classical.byCases (fun a0 : p.auth = 0 => ?_) fun a0 => ?_
   · have a0t := eq_true a0
     refine good_run [] mixed Tryz.func119 rfl Tryz.ntmps119 (rs := [.tmp 2]) rfl (by decide +kernel) (by kernel_rfl) rfl ?_
     rw [startE_eq 32 _ _ _ rfl rfl]
     simp only [go_sem, seval]
     refine call_of (hw1) ?_
     simp only [go_sem, seval, Bool.not_true, Bool.not_false]
     refine call_of (hw2) ?_
     simp only [go_sem, seval, Bool.not_true, Bool.not_false]
     refine call_of (hw3) ?_
     simp only [go_sem, seval, Bool.not_true, Bool.not_false]
     refine call_of (hw4) ?_
     simp only [go_sem, seval, Bool.not_true, Bool.not_false, k1t, a0t, not_true_eq_false, decide_false]
   · have a0t := eq_false a0
     refine good_run [] mixed Tryz.func119 rfl Tryz.ntmps119 (rs := [.tmp 2]) rfl (by decide +kernel) (by kernel_rfl) rfl ?_
     rw [startE_eq 32 _ _ _ rfl rfl]
     simp only [go_sem, seval]
     refine call_of (hw1) ?_
     simp only [go_sem, seval, Bool.not_true, Bool.not_false]
     refine call_of (hw2) ?_
     simp only [go_sem, seval, Bool.not_true, Bool.not_false]
     refine call_of (hw3) ?_
     simp only [go_sem, seval, Bool.not_true, Bool.not_false]
     refine call_of (hw4) ?_
     simp only [go_sem, seval, Bool.not_true, Bool.not_false, k1t, a0t, not_true_eq_false, decide_false, not_false_eq_true, decide_true]
 · have k1t := eq_false k1
   refine Classical.byCases (fun a0 : p.auth = 0 => ?_) fun a0 => ?_
   · rw [if_neg (fun q => q.2 a0)] at hdef
     subst hdef
     have a0t := eq_true a0
     refine good_run [] mixed Tryz.func119 rfl Tryz.ntmps119 (rs := [.tmp 2]) rfl (by decide +kernel) (by kernel_rfl) rfl ?_
     rw [startE_eq 32 _ _ _ rfl rfl]
     simp only [go_sem, seval]
     refine call_of (hw1) ?_
     simp only [go_sem, seval, Bool.not_true, Bool.not_false]
     refine call_of (hw2) ?_
     simp only [go_sem, seval, Bool.not_true, Bool.not_false]
     refine call_of (hw3) ?_
     simp only [go_sem, seval, Bool.not_true, Bool.not_false]
     refine call_of (hw4) ?_
     simp only [go_sem, seval, Bool.not_true, Bool.not_false, k1t, a0t, not_true_eq_false, decide_false, not_false_eq_true, decide_true]
   · rw [if_pos ⟨k1, a0⟩] at hdef
     subst hdef
     have a0t := eq_false a0
     refine good_run [] mixed Tryz.func119 rfl Tryz.ntmps119 (rs := [.tmp 2]) rfl (by decide +kernel) (by kernel_rfl) rfl ?_
     rw [startE_eq 32 _ _ _ rfl rfl]
     simp only [go_sem, seval]
     refine call_of (hw1) ?_
     simp only [go_sem, seval, Bool.not_true, Bool.not_false]
     refine call_of (hw2) ?_
     simp only [go_sem, seval, Bool.not_true, Bool.not_false]
     refine call_of (hw3) ?_
     simp only [go_sem, seval, Bool.not_true, Bool.not_false]
     refine call_of (hw4) ?_
     simp only [go_sem, seval, Bool.not_true, Bool.not_false, k1t, a0t, not_false_eq_true, decide_true]
set_option maxHeartbeats 4000000 in
theorem rIn_good (b : ByteArray) (hb : b.size ≤ 1000000) : Ans Tryz.prog 92 [.str b] (.tup [.agg (encPtr (ptrIn b).1), .int .i64 (ptrIn b).2]) := by
 have hP : ∀ R, ptrIn b = R → Ans Tryz.prog 92 [.str b] (.tup [.agg (encPtr R.1), .int .i64 R.2]) → Ans Tryz.prog 92 [.str b] (.tup [.agg (encPtr (ptrIn b).1), .int .i64 (ptrIn b).2]) := fun R h1 h2 => by rw [h1]; exact h2
 have hI : ptrIn b = ptrInL (toL b) := rfl
 have hL := toL_len b
 unfold ptrInL at hI
 rw [show (((toL b).getD 1 0).toNat : Int) = byteAt b 1 from rfl] at hI
 refine Classical.byCases (fun hs : (b.size : Int) = 16 => ?_) fun hs => ?_
 case refine_2 =>
  rw [if_pos (by omega)] at hI
  refine hP _ hI ?_
  have hst := eq_false hs
  refine good_run [] mixed Tryz.func92 rfl Tryz.ntmps92 (rs := [.cell 2 97, .tmp 3]) rfl (by decide +kernel) (by kernel_rfl) rfl ?_
  rw [startE_eq 32 _ _ _ rfl rfl]
  simp only [go_sem, seval, hst, not_false_eq_true, decide_true]
 have hst := eq_true hs
 have hsz : b.size = 16 := by omega
 rw [if_neg (by omega)] at hI
 have b1 : (1 : Int) < (b.size : Int) := by omega
 have b0 : (0 : Int) < (b.size : Int) := by omega
 refine Classical.byCases (fun h1 : byteAt b 1 = 0 => ?_) fun h1 => ?_
 case refine_2 =>
  rw [if_pos h1] at hI
  refine hP _ hI ?_
  have h1t := eq_false h1
  refine good_run [] mixed Tryz.func92 rfl Tryz.ntmps92 (rs := [.cell 2 97, .tmp 3]) rfl (by decide +kernel) (by kernel_rfl) rfl ?_
  rw [startE_eq 32 _ _ _ rfl rfl]
  simp only [go_sem, seval, hst, not_true_eq_false, decide_false, b1, h1t, not_false_eq_true, decide_true]
 have h1t := eq_true h1
 rw [if_neg (not_not_intro h1)] at hI
 have hk : (ptrOfL (toL b)).kind = byteAt b 0 := rfl
 have hkw : IntKind.wrap .i64 (byteAt b 0) = byteAt b 0 := by
  have : (b.data.toList.getD 0 0).toNat < 256 := UInt8.toNat_lt _
  rw [wrap_i64 (by unfold byteAt; omega) (by unfold byteAt; omega)]
 have hA := Big_good b 2 2 (by decide) (by omega) hb
 have hS := Big_good b 4 6 (by decide) (by omega) hb
 have hO := Big_good b 10 6 (by decide) (by omega) hb
 replace hA : Ans Tryz.prog 134 [.str b, .int .i64 2, .int .i64 2] (.int .i64 (ptrOfL (toL b)).auth) := hA
 replace hS : Ans Tryz.prog 134 [.str b, .int .i64 4, .int .i64 6] (.int .i64 (ptrOfL (toL b)).seg) := hS
 replace hO : Ans Tryz.prog 134 [.str b, .int .i64 10, .int .i64 6] (.int .i64 (ptrOfL (toL b)).off) := hO
 have hE := rPtrErr_good (ptrOfL (toL b))
 have hen : encPtr (ptrOfL (toL b)) = [.int .i64 (byteAt b 0), .int .i64 (ptrOfL (toL b)).seg, .int .i64 (ptrOfL (toL b)).off, .int .i64 (ptrOfL (toL b)).auth] := rfl
 rw [hen] at hE
 refine Classical.byCases (fun he : ptrE (ptrOfL (toL b)) = 0 => ?_) fun he => ?_
 case refine_2 =>
  rw [if_pos he] at hI
  refine hP _ hI ?_
  generalize ptrE (ptrOfL (toL b)) = e at hE he
  have het := eq_false he
  generalize ptrOfL (toL b) = p at hA hS hO hE hk
  refine good_run [] mixed Tryz.func92 rfl Tryz.ntmps92 (rs := [.cell 2 97, .tmp 3]) rfl (by decide +kernel) (by kernel_rfl) rfl ?_
  rw [startE_eq 32 _ _ _ rfl rfl]
  simp only [go_sem, seval, hst, not_true_eq_false, decide_false, b1, b0, h1t, Tryz.underlying5, hkw]
  refine callD_of (hA) ?_
  simp only [go_sem, seval]
  refine callD_of (hS) ?_
  simp only [go_sem, seval]
  refine callD_of (hO) ?_
  simp only [go_sem, seval]
  refine ⟨by decide +kernel, ?_⟩
  refine call_of (hE) ?_
  simp only [go_sem, seval, het, not_false_eq_true, decide_true]
 rw [if_neg (not_not_intro he)] at hI
 refine hP _ hI ?_
 show Ans Tryz.prog 92 [.str b] (.tup [.agg (encPtr (ptrOfL (toL b))), .int .i64 0])
 rw [hen]
 rw [he] at hE
 generalize ptrOfL (toL b) = p at hA hS hO hE hk
 refine good_run [] mixed Tryz.func92 rfl Tryz.ntmps92 (rs := [.cell 2 97, .tmp 3]) rfl (by decide +kernel) (by kernel_rfl) rfl ?_
 rw [startE_eq 32 _ _ _ rfl rfl]
 simp only [go_sem, seval, hst, not_true_eq_false, decide_false, b1, b0, h1t, Tryz.underlying5, hkw]
 refine callD_of (hA) ?_
 simp only [go_sem, seval]
 refine callD_of (hS) ?_
 simp only [go_sem, seval]
 refine callD_of (hO) ?_
 simp only [go_sem, seval]
 refine ⟨by decide +kernel, ?_⟩
 refine call_of (hE) ?_
 simp only [go_sem, seval]
set_option maxHeartbeats 4000000 in
theorem PtrIn_good (b : ByteArray) (hb : b.size ≤ 1000000) : Ans Tryz.prog 127 [.str b] (.tup [.agg (encPtr (ptrIn b).1), .int .i64 (ptrIn b).2]) := by
 have hP : ∀ R, ptrIn b = R → Ans Tryz.prog 127 [.str b] (.tup [.agg (encPtr R.1), .int .i64 R.2]) → Ans Tryz.prog 127 [.str b] (.tup [.agg (encPtr (ptrIn b).1), .int .i64 (ptrIn b).2]) := fun R h1 h2 => by rw [h1]; exact h2
 have hI : ptrIn b = ptrInL (toL b) := rfl
 have hL := toL_len b
 unfold ptrInL at hI
 rw [show (((toL b).getD 1 0).toNat : Int) = byteAt b 1 from rfl] at hI
 refine Classical.byCases (fun hs : (b.size : Int) = 16 => ?_) fun hs => ?_
 case refine_2 =>
  rw [if_pos (by omega)] at hI
  refine hP _ hI ?_
  have hst := eq_false hs
  refine good_run [] mixed Tryz.func127 rfl Tryz.ntmps127 (rs := [.cell 2 97, .tmp 3]) rfl (by decide +kernel) (by kernel_rfl) rfl ?_
  rw [startE_eq 35 _ _ _ rfl rfl]
  simp only [go_sem, seval, hst, not_false_eq_true, decide_true]
 have hst := eq_true hs
 have hsz : b.size = 16 := by omega
 rw [if_neg (by omega)] at hI
 have b1 : (1 : Int) < (b.size : Int) := by omega
 have b0 : (0 : Int) < (b.size : Int) := by omega
 refine Classical.byCases (fun h1 : byteAt b 1 = 0 => ?_) fun h1 => ?_
 case refine_2 =>
  rw [if_pos h1] at hI
  refine hP _ hI ?_
  have h1t := eq_false h1
  refine good_run [] mixed Tryz.func127 rfl Tryz.ntmps127 (rs := [.cell 2 97, .tmp 3]) rfl (by decide +kernel) (by kernel_rfl) rfl ?_
  rw [startE_eq 35 _ _ _ rfl rfl]
  simp only [go_sem, seval, hst, not_true_eq_false, decide_false, b1, h1t, not_false_eq_true, decide_true]
 have h1t := eq_true h1
 rw [if_neg (not_not_intro h1)] at hI
 have hk : (ptrOfL (toL b)).kind = byteAt b 0 := rfl
 have hkw : IntKind.wrap .i64 (byteAt b 0) = byteAt b 0 := by
  have : (b.data.toList.getD 0 0).toNat < 256 := UInt8.toNat_lt _
  rw [wrap_i64 (by unfold byteAt; omega) (by unfold byteAt; omega)]
 have hA := number_good (b.extract 2 4) (by rw [ByteArray.size_extract]; omega)
 have hS := number_good (b.extract 4 10) (by rw [ByteArray.size_extract]; omega)
 have hO := number_good (b.extract 10 16) (by rw [ByteArray.size_extract]; omega)
 rw [toL_extract] at hA hS hO
 replace hA : Ans Tryz.prog 163 [.str (b.extract 2 4)] (.int .i64 (ptrOfL (toL b)).auth) := hA
 replace hS : Ans Tryz.prog 163 [.str (b.extract 4 10)] (.int .i64 (ptrOfL (toL b)).seg) := hS
 replace hO : Ans Tryz.prog 163 [.str (b.extract 10 16)] (.int .i64 (ptrOfL (toL b)).off) := hO
 have c4 : (4 : Int) ≤ (b.size : Int) := by omega
 have c10 : (10 : Int) ≤ (b.size : Int) := by omega
 have hE := CheckPtr_good (ptrOfL (toL b))
 have hen : encPtr (ptrOfL (toL b)) = [.int .i64 (byteAt b 0), .int .i64 (ptrOfL (toL b)).seg, .int .i64 (ptrOfL (toL b)).off, .int .i64 (ptrOfL (toL b)).auth] := rfl
 rw [hen] at hE
 refine Classical.byCases (fun he : ptrE (ptrOfL (toL b)) = 0 => ?_) fun he => ?_
 case refine_2 =>
  rw [if_pos he] at hI
  refine hP _ hI ?_
  generalize ptrE (ptrOfL (toL b)) = e at hE he
  have het := eq_false he
  generalize ptrOfL (toL b) = p at hA hS hO hE hk
  refine good_run [] mixed Tryz.func127 rfl Tryz.ntmps127 (rs := [.cell 2 97, .tmp 3]) rfl (by decide +kernel) (by kernel_rfl) rfl ?_
  rw [startE_eq 35 _ _ _ rfl rfl]
  simp only [go_sem, seval, hst, not_true_eq_false, decide_false, b1, b0, h1t, Tryz.underlying5, hkw, c4, c10, hsz]
  refine callD_of (hA) ?_
  simp only [go_sem, seval, c4, c10, hsz]
  refine callD_of (hS) ?_
  simp only [go_sem, seval, c4, c10, hsz]
  refine callD_of (hO) ?_
  simp only [go_sem, seval]
  refine ⟨by decide +kernel, ?_⟩
  refine call_of (hE) ?_
  simp only [go_sem, seval, het, not_false_eq_true, decide_true]
 rw [if_neg (not_not_intro he)] at hI
 refine hP _ hI ?_
 show Ans Tryz.prog 127 [.str b] (.tup [.agg (encPtr (ptrOfL (toL b))), .int .i64 0])
 rw [hen]
 rw [he] at hE
 generalize ptrOfL (toL b) = p at hA hS hO hE hk
 refine good_run [] mixed Tryz.func127 rfl Tryz.ntmps127 (rs := [.cell 2 97, .tmp 3]) rfl (by decide +kernel) (by kernel_rfl) rfl ?_
 rw [startE_eq 35 _ _ _ rfl rfl]
 simp only [go_sem, seval, hst, not_true_eq_false, decide_false, b1, b0, h1t, Tryz.underlying5, hkw, c4, c10, hsz]
 refine callD_of (hA) ?_
 simp only [go_sem, seval, c4, c10, hsz]
 refine callD_of (hS) ?_
 simp only [go_sem, seval, c4, c10, hsz]
 refine callD_of (hO) ?_
 simp only [go_sem, seval]
 refine ⟨by decide +kernel, ?_⟩
 refine call_of (hE) ?_
 simp only [go_sem, seval]
set_option maxRecDepth 100000
def scanS (s : Stg) : Nat → Nat → Int × Int
 | 0, _ => ((s.tags.length : Int), 0)
 | n + 1, i => if nth s.tags i = true then (if (ptrIn (quadB s.bytes i)).2 = 0 then scanS s n (i + 1) else ((i : Int), 22)) else scanS s n (i + 1)
def stgE (s : Stg) : Int × Int := if 1024 < s.bytes.size then (0, 2) else if ¬ s.bytes.size % 16 = 0 then (0, 18) else if ¬ s.tags.length = s.bytes.size / 16 then (0, 6) else scanS s s.tags.length 0
theorem scanS_ok {s : Stg} : ∀ {n i : Nat}, (scanS s n i).2 = 0 → ∀ k, i ≤ k → k < i + n → nth s.tags k = true → (ptrIn (quadB s.bytes k)).2 = 0
 | 0, i, h, k, h1, h2, ht => by omega
 | n + 1, i, h, k, h1, h2, ht => by
   unfold scanS at h
   by_cases q : k = i
   · subst q
     rw [if_pos ht] at h
     split at h
     · assumption
     · cases h
   · refine scanS_ok (n := n) (i := i + 1) ?_ k (by omega) (by omega) ht
     split at h
     · split at h
       · exact h
       · cases h
     · exact h
structure SOk (s : Stg) : Prop where
 size : s.bytes.size = 16 * s.tags.length
 small : s.tags.length ≤ 64
 ptr : ∀ k, k < s.tags.length → nth s.tags k = true → (ptrIn (quadB s.bytes k)).2 = 0
theorem sok_of {s : Stg} (h : (stgE s).2 = 0) : SOk s := by
 unfold stgE at h
 split at h
 · cases h
 split at h
 · cases h
 split at h
 · cases h
 rename_i q1 q2 q3
 refine ⟨by omega, by omega, fun k hk ht => scanS_ok h k (Nat.zero_le _) (by omega) ht⟩
theorem quad_good (s : Stg) (k : Nat) (h : 16 * k + 16 ≤ s.bytes.size) (hs : s.bytes.size ≤ 1000000) : Ans Tryz.prog 93 [.agg (encStg s), .int .i64 (k : Int)] (.str (quadB s.bytes k)) := by
 have w1 : IntKind.wrap .i64 ((k : Int) * 16) = ((16 * k : Nat) : Int) := by rw [wrap_i64 (by omega) (by omega)]; omega
 have w2 : IntKind.wrap .i64 (((16 * k : Nat) : Int) + 16) = ((16 * k + 16 : Nat) : Int) := by rw [wrap_i64 (by omega) (by omega)]; omega
 have c0 : (0 : Int) ≤ ((16 * k : Nat) : Int) := by omega
 have c1 : ((16 * k : Nat) : Int) ≤ ((16 * k + 16 : Nat) : Int) := by omega
 have c2 : ((16 * k + 16 : Nat) : Int) ≤ (s.bytes.size : Int) := by omega
 have hq : quadB s.bytes k = s.bytes.extract (16 * k) (16 * k + 16) := rfl
 rw [hq]
 refine good_run [] mixed Tryz.func93 rfl Tryz.ntmps93 (rs := [.tmp 4]) rfl (by decide +kernel) (by kernel_rfl) rfl ?_
 rw [startE_eq 13 _ _ _ rfl rfl]
 simp only [go_sem, seval, w1, w2, c0, c1, c2, Int.toNat_natCast]
set_option maxHeartbeats 16000000 in
theorem rCheckStg_good (s : Stg) (hs : s.bytes.size ≤ 1000000) (ht : s.tags.length ≤ 1000000) : Ans Tryz.prog 125 [.agg (encStg s)] (.tup [.int .i64 (stgE s).1, .int .i64 (stgE s).2]) := by
 have hdef : stgE s = if 1024 < s.bytes.size then (0, 2) else if ¬ s.bytes.size % 16 = 0 then (0, 18) else if ¬ s.tags.length = s.bytes.size / 16 then (0, 6) else scanS s s.tags.length 0 := rfl
 generalize stgE s = R at hdef
 refine Classical.byCases (fun h1 : (s.bytes.size : Int) > 1024 => ?_) fun h1 => ?_
 · rw [if_pos (by omega)] at hdef
   subst hdef
   have h1t := eq_true h1
   refine good_run [(9, [2, 3, 6, 7, 26, 27, 28, 29, 30, 31, 32, 33, 34, 35, 36, 37, 38, 39, 40, 41, 42, 43, 44, 45], [6, 6])] mixed Tryz.func125 rfl Tryz.ntmps125 (rs := [.tmp 2, .tmp 3]) rfl (by decide +kernel) (by kernel_rfl) rfl ?_
   rw [startE_eq 47 _ _ _ rfl rfl]
   simp only [go_sem, seval, h1t, decide_true]
 rw [if_neg (by omega)] at hdef
 have h1t := eq_false h1
 have m1 : Int.tmod (s.bytes.size : Int) 16 = ((s.bytes.size % 16 : Nat) : Int) := by rw [Int.tmod_eq_emod_of_nonneg (by omega)]; omega
 refine Classical.byCases (fun h2 : ((s.bytes.size % 16 : Nat) : Int) = 0 => ?_) fun h2 => ?_
 case refine_2 =>
  rw [if_pos (by omega)] at hdef
  subst hdef
  have h2t := eq_false h2
  refine good_run [(9, [2, 3, 6, 7, 26, 27, 28, 29, 30, 31, 32, 33, 34, 35, 36, 37, 38, 39, 40, 41, 42, 43, 44, 45], [6, 6])] mixed Tryz.func125 rfl Tryz.ntmps125 (rs := [.tmp 2, .tmp 3]) rfl (by decide +kernel) (by kernel_rfl) rfl ?_
  rw [startE_eq 47 _ _ _ rfl rfl]
  simp only [go_sem, seval, h1t, m1, h2t, not_false_eq_true, decide_true, decide_false]
 rw [if_neg (by omega)] at hdef
 have h2t := eq_true h2
 have d1 : IntKind.wrap .i64 (Int.tdiv (s.bytes.size : Int) 16) = ((s.bytes.size / 16 : Nat) : Int) := by rw [Int.tdiv_eq_ediv_of_nonneg (by omega), wrap_i64 (by omega) (by omega)]; omega
 refine Classical.byCases (fun h3 : (s.tags.length : Int) = ((s.bytes.size / 16 : Nat) : Int) => ?_) fun h3 => ?_
 case refine_2 =>
  rw [if_pos (by omega)] at hdef
  subst hdef
  have h3t := eq_false h3
  refine good_run [(9, [2, 3, 6, 7, 26, 27, 28, 29, 30, 31, 32, 33, 34, 35, 36, 37, 38, 39, 40, 41, 42, 43, 44, 45], [6, 6])] mixed Tryz.func125 rfl Tryz.ntmps125 (rs := [.tmp 2, .tmp 3]) rfl (by decide +kernel) (by kernel_rfl) rfl ?_
  rw [startE_eq 47 _ _ _ rfl rfl]
  simp only [go_sem, seval, h1t, m1, h2t, not_true_eq_false, decide_false, d1, h3t, not_false_eq_true, decide_true]
 rw [if_neg (by omega)] at hdef
 have h16 : s.bytes.size = 16 * s.tags.length := by omega
 have h3n : s.bytes.size / 16 = s.tags.length := by omega
 rw [h3n] at d1
 refine good_run [(9, [2, 3, 6, 7, 26, 27, 28, 29, 30, 31, 32, 33, 34, 35, 36, 37, 38, 39, 40, 41, 42, 43, 44, 45], [6, 6])] mixed Tryz.func125 rfl Tryz.ntmps125 (rs := [.tmp 2, .tmp 3]) rfl (by decide +kernel) (by kernel_rfl) rfl ?_
 rw [startE_eq 47 _ _ _ rfl rfl]
 simp only [go_sem, seval, h1t, m1, h2t, not_true_eq_false, decide_false, d1]
 refine loop_by ([2, 3, 6, 7, 26, 27, 28, 29, 30, 31, 32, 33, 34, 35, 36, 37, 38, 39, 40, 41, 42, 43, 44, 45], [6, 6]) (fun z : Nat × Nat => [(.s 5, .int .i64 (z.1 : Int)), (.o 6, deadV z.2)]) (fun z => s.tags.length - z.1) (fun z => z.1 ≤ s.tags.length ∧ R = scanS s (s.tags.length - z.1) z.1) (0, 0) rfl ⟨Nat.zero_le _, hdef⟩ ?_ ?_
 · simp only [go_sem, seval]
 rintro c' st' hst ⟨i, m⟩ ⟨hi, hf⟩ ih
 simp only at hi hf ih ⊢
 simp only [go_sem, seval]
 refine ifI (fun hlt => ?_) fun hlt => ?_
 case refine_2 =>
  subst hst
  have hR : R = ((s.tags.length : Int), 0) := by rw [hf, show s.tags.length - i = 0 by omega]; rfl
  subst hR
  simp only [go_sem, seval, hlt]
 have hlt' : i < s.tags.length := by omega
 have hstep : scanS s (s.tags.length - i) i = if nth s.tags i = true then (if (ptrIn (quadB s.bytes i)).2 = 0 then scanS s (s.tags.length - (i + 1)) (i + 1) else ((i : Int), 22)) else scanS s (s.tags.length - (i + 1)) (i + 1) := by
  rw [show s.tags.length - i = (s.tags.length - (i + 1)) + 1 by omega]; rfl
 rw [hstep] at hf
 have hp := rIn_good (quadB s.bytes i) (by rw [quadB_size (by omega)]; decide)
 have hq := quad_good s i (by omega) (by omega)
 simp only [go_sem, seval, hlt, hlt']
 cases hti : nth s.tags i with
 | false =>
   rw [hti, if_neg (by decide)] at hf
   simp only [go_sem, seval, hti, Bool.not_false]
   refine ih (i + 1, m) _ ⟨by simp only; omega, hf⟩ (by simp only; omega) ?_
   simp only [go_sem, seval, wrap_succ (show i < 9223372036854775807 by omega)]
 | true =>
 rw [hti, if_pos rfl] at hf
 generalize ptrIn (quadB s.bytes i) = pe at hp hf
 obtain ⟨p, e⟩ := pe
 simp only at hp hf
 simp only [go_sem, seval, hti, Bool.not_true]
 refine call_of (hq) ?_
 simp only [go_sem, seval]
 refine Classical.byCases (fun he : e = 0 => ?_) fun he => ?_
 · rw [if_pos he] at hf
   have het := eq_true he
   refine call_of (hp) ?_
   simp only [go_sem, seval, het, not_true_eq_false, decide_false]
   refine ih (i + 1, m + 1) _ ⟨by simp only; omega, hf⟩ (by simp only; omega) ?_
   simp only [go_sem, seval, wrap_succ (show i < 9223372036854775807 by omega)]
 · rw [if_neg he] at hf
   have het := eq_false he
   refine call_of (hp) ?_
   simp only [go_sem, seval, het, not_false_eq_true, decide_true]
   rw [hf]
   try exact ⟨rfl, rfl⟩
set_option maxHeartbeats 16000000 in
theorem CheckStg_good (s : Stg) (hs : s.bytes.size ≤ 1000000) (ht : s.tags.length ≤ 1000000) : Ans Tryz.prog 157 [.agg (encStg s)] (.tup [.int .i64 (stgE s).1, .int .i64 (stgE s).2]) := by
 have hdef : stgE s = if 1024 < s.bytes.size then (0, 2) else if ¬ s.bytes.size % 16 = 0 then (0, 18) else if ¬ s.tags.length = s.bytes.size / 16 then (0, 6) else scanS s s.tags.length 0 := rfl
 generalize stgE s = R at hdef
 refine Classical.byCases (fun h1 : (s.bytes.size : Int) > 1024 => ?_) fun h1 => ?_
 · rw [if_pos (by omega)] at hdef
   subst hdef
   have h1t := eq_true h1
   refine good_run [(9, [2, 3, 5, 6, 7, 8, 30, 31, 32, 33, 34, 35, 36, 37, 38, 39, 40, 41, 42, 43, 44, 45, 46, 47, 48, 49, 50, 51], [7, 7])] mixed Tryz.func157 rfl Tryz.ntmps157 (rs := [.tmp 2, .tmp 3]) rfl (by decide +kernel) (by kernel_rfl) rfl ?_
   rw [startE_eq 55 _ _ _ rfl rfl]
   simp only [go_sem, seval, h1t, decide_true]
 rw [if_neg (by omega)] at hdef
 have h1t := eq_false h1
 have m1 : Int.tmod (s.bytes.size : Int) 16 = ((s.bytes.size % 16 : Nat) : Int) := by rw [Int.tmod_eq_emod_of_nonneg (by omega)]; omega
 refine Classical.byCases (fun h2 : ((s.bytes.size % 16 : Nat) : Int) = 0 => ?_) fun h2 => ?_
 case refine_2 =>
  rw [if_pos (by omega)] at hdef
  subst hdef
  have h2t := eq_false h2
  refine good_run [(9, [2, 3, 5, 6, 7, 8, 30, 31, 32, 33, 34, 35, 36, 37, 38, 39, 40, 41, 42, 43, 44, 45, 46, 47, 48, 49, 50, 51], [7, 7])] mixed Tryz.func157 rfl Tryz.ntmps157 (rs := [.tmp 2, .tmp 3]) rfl (by decide +kernel) (by kernel_rfl) rfl ?_
  rw [startE_eq 55 _ _ _ rfl rfl]
  simp only [go_sem, seval, h1t, m1, h2t, not_false_eq_true, decide_true, decide_false]
 rw [if_neg (by omega)] at hdef
 have h2t := eq_true h2
 have d1 : IntKind.wrap .i64 (Int.tdiv (s.bytes.size : Int) 16) = ((s.bytes.size / 16 : Nat) : Int) := by rw [Int.tdiv_eq_ediv_of_nonneg (by omega), wrap_i64 (by omega) (by omega)]; omega
 refine Classical.byCases (fun h3 : (s.tags.length : Int) = ((s.bytes.size / 16 : Nat) : Int) => ?_) fun h3 => ?_
 case refine_2 =>
  rw [if_pos (by omega)] at hdef
  subst hdef
  have h3t := eq_false h3
  refine good_run [(9, [2, 3, 5, 6, 7, 8, 30, 31, 32, 33, 34, 35, 36, 37, 38, 39, 40, 41, 42, 43, 44, 45, 46, 47, 48, 49, 50, 51], [7, 7])] mixed Tryz.func157 rfl Tryz.ntmps157 (rs := [.tmp 2, .tmp 3]) rfl (by decide +kernel) (by kernel_rfl) rfl ?_
  rw [startE_eq 55 _ _ _ rfl rfl]
  simp only [go_sem, seval, h1t, m1, h2t, not_true_eq_false, decide_false, d1, h3t, not_false_eq_true, decide_true]
 rw [if_neg (by omega)] at hdef
 have h16 : s.bytes.size = 16 * s.tags.length := by omega
 have h3n : s.bytes.size / 16 = s.tags.length := by omega
 rw [h3n] at d1
 refine good_run [(9, [2, 3, 5, 6, 7, 8, 30, 31, 32, 33, 34, 35, 36, 37, 38, 39, 40, 41, 42, 43, 44, 45, 46, 47, 48, 49, 50, 51], [7, 7])] mixed Tryz.func157 rfl Tryz.ntmps157 (rs := [.tmp 2, .tmp 3]) rfl (by decide +kernel) (by kernel_rfl) rfl ?_
 rw [startE_eq 55 _ _ _ rfl rfl]
 simp only [go_sem, seval, h1t, m1, h2t, not_true_eq_false, decide_false, d1]
 refine loop_by ([2, 3, 5, 6, 7, 8, 30, 31, 32, 33, 34, 35, 36, 37, 38, 39, 40, 41, 42, 43, 44, 45, 46, 47, 48, 49, 50, 51], [7, 7]) (fun z : Nat × Nat => [(.s 29, .int .i64 (z.1 : Int)), (.o 7, deadV z.2)]) (fun z => s.tags.length - z.1) (fun z => z.1 ≤ s.tags.length ∧ R = scanS s (s.tags.length - z.1) z.1) (0, 0) rfl ⟨Nat.zero_le _, hdef⟩ ?_ ?_
 · simp only [go_sem, seval]
 rintro c' st' hst ⟨i, m⟩ ⟨hi, hf⟩ ih
 simp only at hi hf ih ⊢
 simp only [go_sem, seval]
 refine ifI (fun hlt => ?_) fun hlt => ?_
 case refine_2 =>
  subst hst
  have hR : R = ((s.tags.length : Int), 0) := by rw [hf, show s.tags.length - i = 0 by omega]; rfl
  subst hR
  simp only [go_sem, seval, hlt]
 have hlt' : i < s.tags.length := by omega
 have hstep : scanS s (s.tags.length - i) i = if nth s.tags i = true then (if (ptrIn (quadB s.bytes i)).2 = 0 then scanS s (s.tags.length - (i + 1)) (i + 1) else ((i : Int), 22)) else scanS s (s.tags.length - (i + 1)) (i + 1) := by
  rw [show s.tags.length - i = (s.tags.length - (i + 1)) + 1 by omega]; rfl
 rw [hstep] at hf
 have hp := PtrIn_good (quadB s.bytes i) (by rw [quadB_size (by omega)]; decide)
 have w1 : IntKind.wrap .i64 ((i : Int) * 16) = ((16 * i : Nat) : Int) := by rw [wrap_i64 (by omega) (by omega)]; omega
 have w2 : IntKind.wrap .i64 (((16 * i : Nat) : Int) + 16) = ((16 * i + 16 : Nat) : Int) := by rw [wrap_i64 (by omega) (by omega)]; omega
 have c0 : (0 : Int) ≤ ((16 * i : Nat) : Int) := by omega
 have c1 : ((16 * i : Nat) : Int) ≤ ((16 * i + 16 : Nat) : Int) := by omega
 have c2 : ((16 * i + 16 : Nat) : Int) ≤ (s.bytes.size : Int) := by omega
 have hqe : s.bytes.extract (16 * i) (16 * i + 16) = quadB s.bytes i := rfl
 simp only [go_sem, seval, hlt, hlt']
 cases hti : nth s.tags i with
 | false =>
   rw [hti, if_neg (by decide)] at hf
   simp only [go_sem, seval, hti, Bool.not_false]
   refine ih (i + 1, m) _ ⟨by simp only; omega, hf⟩ (by simp only; omega) ?_
   simp only [go_sem, seval, wrap_succ (show i < 9223372036854775807 by omega)]
 | true =>
 rw [hti, if_pos rfl] at hf
 generalize ptrIn (quadB s.bytes i) = pe at hp hf
 obtain ⟨p, e⟩ := pe
 simp only at hp hf
 simp only [go_sem, seval, hti, Bool.not_true, w1, w2, c0, c1, c2, Int.toNat_natCast, hqe]
 refine Classical.byCases (fun he : e = 0 => ?_) fun he => ?_
 · rw [if_pos he] at hf
   have het := eq_true he
   refine call_of (hp) ?_
   simp only [go_sem, seval, het, not_true_eq_false, decide_false]
   refine ih (i + 1, m + 1) _ ⟨by simp only; omega, hf⟩ (by simp only; omega) ?_
   simp only [go_sem, seval, wrap_succ (show i < 9223372036854775807 by omega)]
 · rw [if_neg he] at hf
   have het := eq_false he
   refine call_of (hp) ?_
   simp only [go_sem, seval, het, not_false_eq_true, decide_true]
   rw [hf]
   try exact ⟨rfl, rfl⟩
set_option maxRecDepth 100000
theorem rErr_good (s : Stg) (hs : s.bytes.size ≤ 1000000) (ht : s.tags.length ≤ 1000000) : Ans Tryz.prog 81 [.agg (encStg s)] (.int .i64 (stgE s).2) := by
 have h := rCheckStg_good s hs ht
 generalize stgE s = R at h
 refine good_run [] mixed Tryz.func81 rfl Tryz.ntmps81 (rs := [.tmp 2]) rfl (by decide +kernel) (by kernel_rfl) rfl ?_
 rw [startE_eq 11 _ _ _ rfl rfl]
 simp only [go_sem, seval]
 refine call_of (h) ?_
 simp only [go_sem, seval]
theorem isQuad_good (s : Stg) (k : Nat) (h : 16 * k + 16 ≤ s.bytes.size) (hs : s.bytes.size ≤ 1000000) : Ans Tryz.prog 91 [.agg (encStg s), .int .i64 ((16 * k : Nat) : Int)] (.bool true) := by
 have hw := Within_good ((16 * k : Nat) : Int) 0 ((s.bytes.size : Int) - 16)
 rw [show inB ((16 * k : Nat) : Int) 0 ((s.bytes.size : Int) - 16) = true by unfold inB; exact decide_eq_true (by omega)] at hw
 have w1 : IntKind.wrap .i64 ((s.bytes.size : Int) - 16) = (s.bytes.size : Int) - 16 := wrap_i64 (by omega) (by omega)
 have m1 : Int.tmod ((16 * k : Nat) : Int) 16 = 0 := by rw [Int.tmod_eq_emod_of_nonneg (by omega)]; omega
 generalize ((16 * k : Nat) : Int) = a at hw m1
 refine good_run [] mixed Tryz.func91 rfl Tryz.ntmps91 (rs := [.tmp 4]) rfl (by decide +kernel) (by kernel_rfl) rfl ?_
 rw [startE_eq 16 _ _ _ rfl rfl]
 simp only [go_sem, seval, w1]
 refine call_of (hw) ?_
 simp only [go_sem, seval, m1]
set_option maxHeartbeats 4000000 in
theorem rLoad_good (s : Stg) (h : SOk s) (k : Nat) (hk : k < s.tags.length) (ht : nth s.tags k = true) : Ans Tryz.prog 48 [.agg (encStg s), .int .i64 ((16 * k : Nat) : Int)] (.tup [.agg (encPtr (ptrIn (quadB s.bytes k)).1), .int .i64 0]) := by
 have h1 := h.size
 have h2 := h.small
 have hp := rIn_good (quadB s.bytes k) (by rw [quadB_size (by omega)]; decide)
 rw [h.ptr k hk ht] at hp
 have hq := quad_good s k (by omega) (by omega)
 have hi := isQuad_good s k (by omega) (by omega)
 have d1 : IntKind.wrap .i64 (Int.tdiv ((16 * k : Nat) : Int) 16) = (k : Int) := by rw [Int.tdiv_eq_ediv_of_nonneg (by omega), wrap_i64 (by omega) (by omega)]; omega
 have hlt : (k : Int) < (s.tags.length : Int) := by omega
 generalize (ptrIn (quadB s.bytes k)).1 = p at hp
 generalize ((16 * k : Nat) : Int) = a at hi d1
 refine good_run [] mixed Tryz.func48 rfl Tryz.ntmps48 (rs := [.cell 4 97, .tmp 5]) rfl (by decide +kernel) (by kernel_rfl) rfl ?_
 rw [startE_eq 30 _ _ _ rfl rfl]
 simp only [go_sem, seval]
 refine call_of (hi) ?_
 simp only [go_sem, seval, Bool.not_true, d1, hlt, hk, ht]
 refine call_of (hq) ?_
 simp only [go_sem, seval]
 refine call_of (hp) ?_
 simp only [go_sem, seval]
theorem place_good (s : Stg) (h : SOk s) (he : (stgE s).2 = 0) (k : Nat) (hk : k < s.tags.length) : Ans Tryz.prog 118 [.agg (encStg s), .int .i64 ((16 * k : Nat) : Int)] (.int .i64 0) := by
 have h1 := h.size
 have h2 := h.small
 have hc := CheckStg_good s (by omega) (by omega)
 rw [he] at hc
 have m1 : Int.tmod ((16 * k : Nat) : Int) 16 = 0 := by rw [Int.tmod_eq_emod_of_nonneg (by omega)]; omega
 have c0 : (((16 * k : Nat) : Int) < 0) = False := eq_false (by omega)
 have c1 : (((16 * k : Nat) : Int) ≥ (s.bytes.size : Int)) = False := eq_false (by omega)
 generalize (stgE s).1 = e at hc
 generalize ((16 * k : Nat) : Int) = a at m1 c0 c1
 refine good_run [] mixed Tryz.func118 rfl Tryz.ntmps118 (rs := [.tmp 4]) rfl (by decide +kernel) (by kernel_rfl) rfl ?_
 rw [startE_eq 29 _ _ _ rfl rfl]
 simp only [go_sem, seval]
 refine call_of (hc) ?_
 simp only [go_sem, seval, m1, c0, c1, decide_false, not_true_eq_false]
set_option maxHeartbeats 4000000 in
theorem LoadPtr_good (s : Stg) (h : SOk s) (he : (stgE s).2 = 0) (k : Nat) (hk : k < s.tags.length) (ht : nth s.tags k = true) : Ans Tryz.prog 83 [.agg (encStg s), .int .i64 ((16 * k : Nat) : Int)] (.tup [.agg (encPtr (ptrIn (quadB s.bytes k)).1), .int .i64 0]) := by
 have h1 := h.size
 have h2 := h.small
 have hp := PtrIn_good (quadB s.bytes k) (by rw [quadB_size (by omega)]; decide)
 rw [h.ptr k hk ht] at hp
 have hl := place_good s h he k hk
 have d1 : IntKind.wrap .i64 (Int.tdiv ((16 * k : Nat) : Int) 16) = (k : Int) := by rw [Int.tdiv_eq_ediv_of_nonneg (by omega), wrap_i64 (by omega) (by omega)]; omega
 have hlt : (k : Int) < (s.tags.length : Int) := by omega
 have w2 : IntKind.wrap .i64 (((16 * k : Nat) : Int) + 16) = ((16 * k + 16 : Nat) : Int) := by rw [wrap_i64 (by omega) (by omega)]; omega
 have c0 : (0 : Int) ≤ ((16 * k : Nat) : Int) := by omega
 have c1 : ((16 * k : Nat) : Int) ≤ ((16 * k + 16 : Nat) : Int) := by omega
 have c2 : ((16 * k + 16 : Nat) : Int) ≤ (s.bytes.size : Int) := by omega
 have hqe : s.bytes.extract (16 * k) (16 * k + 16) = quadB s.bytes k := rfl
 generalize (ptrIn (quadB s.bytes k)).1 = p at hp
 refine good_run [] mixed Tryz.func83 rfl Tryz.ntmps83 (rs := [.cell 4 97, .tmp 5]) rfl (by decide +kernel) (by kernel_rfl) rfl ?_
 rw [startE_eq 31 _ _ _ rfl rfl]
 simp only [go_sem, seval]
 refine call_of (hl) ?_
 simp only [go_sem, seval, Bool.not_true, d1, hlt, hk, ht, w2, c0, c1, c2, Int.toNat_natCast, hqe]
 refine call_of (hp) ?_
 simp only [go_sem, seval]
def tagK (s : Stg) (i : Nat) : List Nat := (List.range i).filter fun k => nth s.tags k
def atsL (s : Stg) (i : Nat) : List Int := (tagK s i).map fun k => ((16 * k : Nat) : Int)
def ptrP (s : Stg) (i : Nat) : List Ptr := (tagK s i).map fun k => (ptrIn (quadB s.bytes k)).1
theorem tagK_yes {s : Stg} {i : Nat} (h : nth s.tags i = true) : tagK s (i + 1) = tagK s i ++ [i] := by
 unfold tagK
 rw [List.range_succ, List.filter_append, List.filter_cons, if_pos h, List.filter_nil]
theorem tagK_no {s : Stg} {i : Nat} (h : nth s.tags i = false) : tagK s (i + 1) = tagK s i := by
 unfold tagK
 rw [List.range_succ, List.filter_append, List.filter_cons, if_neg (by rw [h]; decide), List.filter_nil, List.append_nil]
theorem tagK_len (s : Stg) (i : Nat) : (tagK s i).length ≤ i := by
 have := List.length_filter_le (fun k => nth s.tags k) (List.range i)
 rw [List.length_range] at this
 exact this
theorem tagK_mem {s : Stg} {i k : Nat} : k ∈ tagK s i ↔ k < i ∧ nth s.tags k = true := by
 unfold tagK
 rw [List.mem_filter, List.mem_range]
set_option maxHeartbeats 4000000 in
theorem rPointers_good (s : Stg) (hs : s.tags.length ≤ 1000) : Ans Tryz.prog 47 [.agg (encStg s)] (.sl ((atsL s s.tags.length).map encInt)) := by
 refine good_run [(3, [5, 6, 7, 8, 9, 10, 11, 12, 13, 14, 15, 16, 17, 18, 19, 20, 21], [20, 1301003021])] mixed Tryz.func47 rfl Tryz.ntmps47 (rs := [.tmp 2]) rfl (by decide +kernel) (by kernel_rfl) rfl ?_
 rw [startE_eq 23 _ _ _ rfl rfl]
 simp only [go_sem, seval]
 refine loop_by ([5, 6, 7, 8, 9, 10, 11, 12, 13, 14, 15, 16, 17, 18, 19, 20, 21], [20, 1301003021]) (fun i : Nat => [(.s 4, .int .i64 (i : Int)), (.o 20, deadV (tagK s i).length), (.o 21, .obj ((tagK s i).length + 1) 3 1 false true ((atsL s i).map encInt)), (.s 3, .ref 21 ((tagK s i).length + 1))]) (fun i => s.tags.length - i) (fun i => i ≤ s.tags.length) 0 rfl (Nat.zero_le _) ?_ ?_
 · simp only [go_sem, seval, show tagK s 0 = [] from rfl, show atsL s 0 = [] from rfl, List.map_nil, List.length_nil]
 rintro c' st' hst i hi ih
 simp only [go_sem, seval]
 refine ifI (fun hlt => ?_) fun hlt => ?_
 · have hlt' : i < s.tags.length := by omega
   simp only [go_sem, seval, hlt, hlt']
   cases hti : nth s.tags i with
   | false =>
     simp only [go_sem, seval, hti]
     refine ih (i + 1) _ (by omega) (by omega) ?_
     simp only [go_sem, seval, wrap_succ (show i < 9223372036854775807 by omega), atsL, tagK_no hti]
   | true =>
     have hl := tagK_len s i
     have w1 : IntKind.wrap .i64 ((i : Int) * 16) = ((16 * i : Nat) : Int) := by rw [wrap_i64 (by omega) (by omega)]; omega
     simp only [go_sem, seval, hti, w1, atsL, List.length_map, show ((tagK s i).length + 1) * 8 ≤ 140737488355328 by omega, show (tagK s i).length + 1 ≤ maxLen by unfold maxLen; omega]
     refine ih (i + 1) _ (by omega) (by omega) ?_
     simp only [go_sem, seval, wrap_succ (show i < 9223372036854775807 by omega), atsL, tagK_yes hti, List.map_append, List.map_cons, List.map_nil, List.length_append, List.length_cons, List.length_nil]
 · have hin : i = s.tags.length := by omega
   subst hst
   simp only [go_sem, seval, hlt]
   rw [hin]
set_option maxHeartbeats 4000000 in
theorem pointers_good (s : Stg) (h : SOk s) (he : (stgE s).2 = 0) : Ans Tryz.prog 43 [.agg (encStg s)] (.sl ((ptrP s s.tags.length).map encPtr)) := by
 have h2 := h.small
 refine good_run [(3, [4, 5, 6, 7, 12, 13, 14, 15, 16, 17, 18, 19, 20, 21, 22, 23, 24, 25, 26, 27, 28], [6, 26, 1304097027])] mixed Tryz.func43 rfl Tryz.ntmps43 (rs := [.tmp 2]) rfl (by decide +kernel) (by kernel_rfl) rfl ?_
 rw [startE_eq 30 _ _ _ rfl rfl]
 simp only [go_sem, seval]
 refine loop_by ([4, 5, 6, 7, 12, 13, 14, 15, 16, 17, 18, 19, 20, 21, 22, 23, 24, 25, 26, 27, 28], [6, 26, 1304097027]) (fun i : Nat => [(.s 11, .int .i64 (i : Int)), (.o 6, deadV (tagK s i).length), (.o 26, deadV (tagK s i).length), (.o 27, .obj ((tagK s i).length + 1) 97 4 false true ((ptrP s i).map encPtr)), (.s 3, .ref 27 ((tagK s i).length + 1))]) (fun i => s.tags.length - i) (fun i => i ≤ s.tags.length) 0 rfl (Nat.zero_le _) ?_ ?_
 · simp only [go_sem, seval, show tagK s 0 = [] from rfl, show ptrP s 0 = [] from rfl, List.map_nil, List.length_nil]
 rintro c' st' hst i hi ih
 simp only [go_sem, seval]
 refine ifI (fun hlt => ?_) fun hlt => ?_
 · have hlt' : i < s.tags.length := by omega
   simp only [go_sem, seval, hlt, hlt']
   cases hti : nth s.tags i with
   | false =>
     simp only [go_sem, seval, hti]
     refine ih (i + 1) _ (by omega) (by omega) ?_
     simp only [go_sem, seval, wrap_succ (show i < 9223372036854775807 by omega), ptrP, tagK_no hti]
   | true =>
     have hl := tagK_len s i
     have w1 : IntKind.wrap .i64 ((i : Int) * 16) = ((16 * i : Nat) : Int) := by rw [wrap_i64 (by omega) (by omega)]; omega
     have hp := LoadPtr_good s h he i hlt' hti
     obtain ⟨p, hpe⟩ : ∃ p, (ptrIn (quadB s.bytes i)).1 = p := ⟨_, rfl⟩
     rw [hpe] at hp
     simp only [go_sem, seval, hti, w1]
     refine call_of (hp) ?_
     simp only [go_sem, seval, ptrP, List.length_map, show ((tagK s i).length + 1) * 32 ≤ 140737488355328 by omega, show (tagK s i).length + 1 ≤ maxLen by unfold maxLen; omega]
     refine ih (i + 1) _ (by omega) (by omega) ?_
     simp only [go_sem, seval, wrap_succ (show i < 9223372036854775807 by omega), ptrP, tagK_yes hti, List.map_append, List.map_cons, List.map_nil, List.length_append, List.length_cons, List.length_nil, hpe]
 · have hin : i = s.tags.length := by omega
   subst hst
   simp only [go_sem, seval, hlt]
   rw [hin]
def badP (C : CC) (p : Ptr) : Bool := decide (p.kind = 2) || !decide (p.off = 0) || !inB (p.seg - 1) 0 ((C.O : Int) - 1) || (decide (p.kind = 0) && !C.sp (p.seg - 1))
set_option maxHeartbeats 4000000 in
theorem bad_good (c : Case) (p : Ptr) (hp : 0 ≤ p.seg ∧ p.seg ≤ 1099511627775) (hO : c.sec.objects.length ≤ 1000) : Ans Tryz.prog 162 [.agg (encPtr p), .ptr (encCase c)] (.bool (badP (cc c) p)) := by
 have hin := pin_good (p.seg - 1) 0 ((c.sec.objects.length : Int) - 1)
 have hs := isSpace_good c (p.seg - 1) (by omega)
 have w1 : IntKind.wrap .i64 (p.seg - 1) = p.seg - 1 := wrap_i64 (by omega) (by omega)
 have w2 : IntKind.wrap .i64 ((c.sec.objects.length : Int) - 1) = (c.sec.objects.length : Int) - 1 := wrap_i64 (by omega) (by omega)
 have hdef : badP (cc c) p = (decide (p.kind = 2) || !decide (p.off = 0) || !inB (p.seg - 1) 0 ((c.sec.objects.length : Int) - 1) || (decide (p.kind = 0) && !spB c (p.seg - 1))) := rfl
 rw [hdef]
 clear hdef
 generalize inB (p.seg - 1) 0 ((c.sec.objects.length : Int) - 1) = bi at hin
 generalize spB c (p.seg - 1) = bs at hs
 refine Classical.byCases (fun k2 : p.kind = 2 => ?_) fun k2 => ?_
 · rw [decide_eq_true k2, Bool.true_or, Bool.true_or, Bool.true_or]
   have k2t := eq_true k2
   refine good_run [] mixed Tryz.func162 rfl Tryz.ntmps162 (rs := [.tmp 3]) rfl (by decide +kernel) (by kernel_rfl) rfl ?_
   rw [startE_eq 39 _ _ _ rfl rfl]
   simp only [go_sem, seval, w1, k2t, decide_true]
 have k2t := eq_false k2
 rw [decide_eq_false k2, Bool.false_or]
 refine Classical.byCases (fun o0 : p.off = 0 => ?_) fun o0 => ?_
 case refine_2 =>
  rw [decide_eq_false o0, Bool.not_false, Bool.true_or, Bool.true_or]
  have o0t := eq_false o0
  refine good_run [] mixed Tryz.func162 rfl Tryz.ntmps162 (rs := [.tmp 3]) rfl (by decide +kernel) (by kernel_rfl) rfl ?_
  rw [startE_eq 39 _ _ _ rfl rfl]
  simp only [go_sem, seval, w1, k2t, decide_false, o0t, not_false_eq_true, decide_true]
 have o0t := eq_true o0
 rw [decide_eq_true o0, Bool.not_true, Bool.false_or]
 cases bi with
 | false =>
   rw [Bool.not_false, Bool.true_or]
   refine good_run [] mixed Tryz.func162 rfl Tryz.ntmps162 (rs := [.tmp 3]) rfl (by decide +kernel) (by kernel_rfl) rfl ?_
   rw [startE_eq 39 _ _ _ rfl rfl]
   simp only [go_sem, seval, w1, k2t, decide_false, o0t, not_true_eq_false, w2]
   refine call_of (hin) ?_
   simp only [go_sem, seval, Bool.not_false]
 | true =>
 rw [Bool.not_true, Bool.false_or]
 refine Classical.byCases (fun k0 : p.kind = 0 => ?_) fun k0 => ?_
 · rw [decide_eq_true k0, Bool.true_and]
   have k0t := eq_true k0
   refine good_run [] mixed Tryz.func162 rfl Tryz.ntmps162 (rs := [.tmp 3]) rfl (by decide +kernel) (by kernel_rfl) rfl ?_
   rw [startE_eq 39 _ _ _ rfl rfl]
   simp only [go_sem, seval, w1, k2t, decide_false, o0t, not_true_eq_false, w2]
   refine call_of (hin) ?_
   simp only [go_sem, seval, Bool.not_true, k0t, decide_true]
   refine call_of (hs) ?_
   simp only [go_sem, seval]
 · rw [decide_eq_false k0, Bool.false_and]
   have k0t := eq_false k0
   refine good_run [] mixed Tryz.func162 rfl Tryz.ntmps162 (rs := [.tmp 3]) rfl (by decide +kernel) (by kernel_rfl) rfl ?_
   rw [startE_eq 39 _ _ _ rfl rfl]
   simp only [go_sem, seval, w1, k2t, decide_false, o0t, not_true_eq_false, w2]
   refine call_of (hin) ?_
   simp only [go_sem, seval, Bool.not_true, k0t, decide_false]
theorem IndexPtr_good (c : Case) (l : List Ptr) (hl : l.length ≤ 1000000) (hp : ∀ p ∈ l, 0 ≤ p.seg ∧ p.seg ≤ 1099511627775) (hO : c.sec.objects.length ≤ 1000) : Ans Tryz.prog 191 [.sl (l.map encPtr), .fn 162 [.ptr (encCase c)]] (.int .i64 (findIx (badP (cc c)) l 0)) := by
 refine good_run [(2, [4, 5, 9, 10, 11, 12, 13, 14, 15, 16, 17, 18], [])] mixed Tryz.func191 rfl Tryz.ntmps191 (rs := [.tmp 4]) rfl (by decide +kernel) (by kernel_rfl) rfl ?_
 rw [startE_eq 19 _ _ _ rfl rfl]
 simp only [go_sem, seval]
 refine loop_by ([4, 5, 9, 10, 11, 12, 13, 14, 15, 16, 17, 18], []) (fun i : Nat => [(.s 8, .int .i64 (i : Int))]) (fun i => l.length - i) (fun i => i ≤ l.length ∧ findIx (badP (cc c)) l 0 = findIx (badP (cc c)) (l.drop i) i) 0 rfl ⟨Nat.zero_le _, rfl⟩ rfl ?_
 rintro c' st' hst i ⟨hi, hf⟩ ih
 simp only [go_sem, seval]
 refine ifI (fun hlt => ?_) fun hlt => ?_
 · have hlt' : i < l.length := by omega
   simp only [go_sem, seval, hlt, hlt']
   refine call_of (bad_good c (nth l i) (hp _ (nth_mem hlt')) hO) ?_
   simp only [go_sem, seval]
   refine ifI (fun hn => ?_) fun hn => ?_
   · simp only [go_sem, seval, hn]
     rw [hf, drop_nth hlt', findIx, if_pos hn]
   · simp only [go_sem, seval, hn]
     refine ih (i + 1) _ ⟨by omega, ?_⟩ (by omega) ?_
     · rw [hf, drop_nth hlt', findIx, if_neg hn]
     simp only [go_sem, seval, wrap_succ (show i < 9223372036854775807 by omega)]
 · subst hst
   simp only [go_sem, seval, hlt]
   rw [hf, List.drop_eq_nil_of_le (by omega)]; rfl
theorem ContainsPtr_good (c : Case) (l : List Ptr) (hl : l.length ≤ 1000000) (hp : ∀ p ∈ l, 0 ≤ p.seg ∧ p.seg ≤ 1099511627775) (hO : c.sec.objects.length ≤ 1000) : Ans Tryz.prog 161 [.sl (l.map encPtr), .fn 162 [.ptr (encCase c)]] (.bool (l.any (badP (cc c)))) := by
 have hI := IndexPtr_good c l hl hp hO
 rw [← findIx_any (badP (cc c)) l 0]
 refine good_run [] mixed Tryz.func161 rfl Tryz.ntmps161 (rs := [.tmp 4]) rfl (by decide +kernel) (by kernel_rfl) rfl ?_
 rw [startE_eq 9 _ _ _ rfl rfl]
 simp only [go_sem, seval]
 refine call_of (hI) ?_
 simp only [go_sem, seval]
theorem ptrP_rng {s : Stg} (h : SOk s) : ∀ p ∈ ptrP s s.tags.length, 0 ≤ p.seg ∧ p.seg ≤ 1099511627775 := fun p hp => by
 obtain ⟨k, hk, rfl⟩ := List.mem_map.1 hp
 obtain ⟨h1, h2⟩ := tagK_mem.1 hk
 exact (ptrE_ok.1 (ptrIn_err (h.ptr k h1 h2))).2.1
def stoE (C : CC) (s : Stg) (q : Nat) : Int := if ¬ (stgE s).2 = 0 then (stgE s).2 else if ¬ s.tags.length = q then 18 else if (ptrP s s.tags.length).any (badP C) = true then 22 else 0
set_option maxHeartbeats 4000000 in
theorem storageErr_good (c : Case) (s : Stg) (q : Nat) (hs : s.bytes.size ≤ 1000000) (ht : s.tags.length ≤ 1000000) (hq : q ≤ 1000) (hO : c.sec.objects.length ≤ 1000) : Ans Tryz.prog 126 [.agg (encCase c), .agg (encStg s), .int .i64 (q : Int)] (.int .i64 (stoE (cc c) s q)) := by
 have hC := CheckStg_good s hs ht
 have hdef : stoE (cc c) s q = if ¬ (stgE s).2 = 0 then (stgE s).2 else if ¬ s.tags.length = q then 18 else if (ptrP s s.tags.length).any (badP (cc c)) = true then 22 else 0 := rfl
 generalize stoE (cc c) s q = R at hdef
 refine Classical.byCases (fun he : (stgE s).2 = 0 => ?_) fun he => ?_
 case refine_2 =>
  rw [if_pos he] at hdef
  subst hdef
  generalize stgE s = e at hC he
  have het := eq_false he
  refine good_run [] mixed Tryz.func126 rfl Tryz.ntmps126 (rs := [.tmp 6]) rfl (by decide +kernel) (by kernel_rfl) rfl ?_
  rw [startE_eq 32 _ _ _ rfl rfl]
  simp only [go_sem, seval]
  refine call_of (hC) ?_
  simp only [go_sem, seval, het, not_false_eq_true, decide_true]
 rw [if_neg (not_not_intro he)] at hdef
 have h := sok_of he
 have hP := pointers_good s h he
 have hB := ContainsPtr_good c (ptrP s s.tags.length) (by have := tagK_len s s.tags.length; have := h.small; unfold ptrP; rw [List.length_map]; omega) (ptrP_rng h) hO
 generalize (ptrP s s.tags.length).any (badP (cc c)) = b at hB hdef
 rw [he] at hC
 have hcb := pcond_good b 22
 have hf2 := pfirst2_good
 refine Classical.byCases (fun hn : (s.tags.length : Int) = (q : Int) => ?_) fun hn => ?_
 · rw [if_neg (by omega)] at hdef
   have hnt := eq_true hn
   rw [← hdef] at hcb
   refine good_run [] mixed Tryz.func126 rfl Tryz.ntmps126 (rs := [.tmp 6]) rfl (by decide +kernel) (by kernel_rfl) rfl ?_
   rw [startE_eq 32 _ _ _ rfl rfl]
   simp only [go_sem, seval]
   refine call_of (hC) ?_
   simp only [go_sem, seval]
   refine call_of (hP) ?_
   simp only [go_sem, seval]
   refine call_of (hB) ?_
   simp only [go_sem, seval, hnt, not_true_eq_false, decide_false]
   refine call_of (condF 18) ?_
   simp only [go_sem, seval]
   refine call_of (hcb) ?_
   simp only [go_sem, seval]
   refine call_of (first2_0 R) ?_
   simp only [go_sem, seval]
 · rw [if_pos (by omega)] at hdef
   subst hdef
   have hnt := eq_false hn
   generalize (if b = true then (22 : Int) else 0) = y at hcb
   have hy := pfirst2_good 18 y
   rw [show firstE [18, y] = 18 from rfl] at hy
   refine good_run [] mixed Tryz.func126 rfl Tryz.ntmps126 (rs := [.tmp 6]) rfl (by decide +kernel) (by kernel_rfl) rfl ?_
   rw [startE_eq 32 _ _ _ rfl rfl]
   simp only [go_sem, seval]
   refine call_of (hC) ?_
   simp only [go_sem, seval]
   refine call_of (hP) ?_
   simp only [go_sem, seval]
   refine call_of (hB) ?_
   simp only [go_sem, seval, hnt, not_false_eq_true, decide_true]
   refine call_of (condT 18) ?_
   simp only [go_sem, seval]
   refine call_of (hcb) ?_
   simp only [go_sem, seval]
   refine call_of (hy) ?_
   simp only [go_sem, seval]
set_option maxRecDepth 100000
def smallS (x : Stg) : Bool := decide (x.bytes.size ≤ 1072) && decide (x.tags.length ≤ 67)
def fewStB (l : List Stg) (n : Nat) : Bool := decide (l.length ≤ n) && l.all smallS
def fewS (s : St) : Bool := fewStB s.jobs 6 && fewStB s.spaces 12
theorem smallS_of {x : Stg} : smallS x = true ↔ x.bytes.size ≤ 1072 ∧ x.tags.length ≤ 67 := by simp [smallS]
theorem fewStB_fit {l : List Stg} {n : Nat} (h : fewStB l n = true) : l.length ≤ n ∧ ∀ x ∈ l, x.bytes.size ≤ 1072 ∧ x.tags.length ≤ 67 := by
 simp only [fewStB, Bool.and_eq_true, decide_eq_true_eq, List.all_eq_true] at h
 exact ⟨h.1, fun x hx => smallS_of.1 (h.2 x hx)⟩
set_option maxHeartbeats 4000000 in
theorem fewSt_good (l : List Stg) (n : Nat) (hn : n ≤ 1000) : Ans Tryz.prog 40 [.sl (l.map encStg), .int .i64 (n : Int)] (.bool (fewStB l n)) := by
 refine good_run [(2, [4, 6, 7, 8, 9, 10, 11, 12, 13, 14, 15, 16, 17, 18, 19, 20, 21, 22, 23, 24, 25, 26, 27, 28, 29, 30, 31, 32], [])] mixed Tryz.func40 rfl Tryz.ntmps40 (rs := [.tmp 4]) rfl (by decide +kernel) (by kernel_rfl) rfl ?_
 rw [startE_eq 37 _ _ _ rfl rfl]
 simp only [go_sem, seval]
 refine loop_by ([4, 6, 7, 8, 9, 10, 11, 12, 13, 14, 15, 16, 17, 18, 19, 20, 21, 22, 23, 24, 25, 26, 27, 28, 29, 30, 31, 32], []) (fun i : Nat => [(.s 5, .int .i64 (i : Int))]) (fun i => n + 1 - i) (fun i => i ≤ l.length ∧ i ≤ n + 1 ∧ ∀ j, j < i → smallS (nth l j) = true) 0 rfl ⟨Nat.zero_le _, Nat.zero_le _, fun j hj => absurd hj (Nat.not_lt_zero _)⟩ rfl ?_
 rintro c' st' hst i ⟨hi, hi2, hp⟩ ih
 simp only [go_sem, seval]
 refine ifI (fun hlt => ?_) fun hlt => ?_
 · have hlt' : i < l.length := by omega
   simp only [go_sem, seval, hlt]
   refine ifI (fun h2 => ?_) fun h2 => ?_
   · refine Classical.byCases (fun h3 : ((nth l i).bytes.size : Int) > 1072 => ?_) fun h3 => ?_
     · have h3t := eq_true h3
       have hns : smallS (nth l i) = false := by
        cases hb : smallS (nth l i) with
        | false => rfl
        | true => have := (smallS_of.1 hb).1; omega
       simp only [go_sem, seval, hlt, hlt', h3t, decide_true]
       rw [fewStB, all_not hlt' hns, Bool.and_false]
     have h3t := eq_false h3
     refine Classical.byCases (fun h4 : ((nth l i).tags.length : Int) > 67 => ?_) fun h4 => ?_
     · have h4t := eq_true h4
       have hns : smallS (nth l i) = false := by
        cases hb : smallS (nth l i) with
        | false => rfl
        | true => have := (smallS_of.1 hb).2; omega
       simp only [go_sem, seval, hlt, hlt', h3t, decide_false, h4t, decide_true]
       rw [fewStB, all_not hlt' hns, Bool.and_false]
     have h4t := eq_false h4
     simp only [go_sem, seval, hlt, hlt', h3t, decide_false, h4t]
     refine ih (i + 1) _ ⟨by omega, by omega, fun j hj => ?_⟩ (by omega) ?_
     · rcases Nat.lt_or_ge j i with h | h
       · exact hp j h
       · rw [show j = i by omega]; exact smallS_of.2 ⟨by omega, by omega⟩
     · simp only [go_sem, seval, wrap_succ (show i < 9223372036854775807 by omega)]
   · subst hst
     have hn2 : ((l.length : Int) ≤ (n : Int)) = False := eq_false (by omega)
     simp only [go_sem, seval, hn2, decide_false]
     rw [fewStB, decide_eq_false (by omega)]; rfl
 · subst hst
   have hall : l.all smallS = true := (all_nth l smallS).2 fun j hj => hp j (by omega)
   refine Classical.byCases (fun hn : (l.length : Int) ≤ (n : Int) => ?_) fun hn => ?_
   · have hn2 := eq_true hn
     simp only [go_sem, seval, hlt, hn2, decide_true]
     rw [fewStB, hall, decide_eq_true (by omega)]; rfl
   · have hn2 := eq_false hn
     simp only [go_sem, seval, hlt, hn2, decide_false]
     rw [fewStB, decide_eq_false (by omega)]; rfl
theorem fewState_good (s : St) : Ans Tryz.prog 14 [.agg (encSt s)] (.bool (fewS s)) := by
 have h1 := fewSt_good s.jobs 6 (by decide)
 have h2 := fewSt_good s.spaces 12 (by decide)
 have hdef : fewS s = (fewStB s.jobs 6 && fewStB s.spaces 12) := rfl
 rw [hdef]
 generalize fewStB s.spaces 12 = b at h2
 cases ha : fewStB s.jobs 6 with
 | false =>
   rw [ha] at h1
   rw [Bool.false_and]
   refine good_run [] mixed Tryz.func14 rfl Tryz.ntmps14 (rs := [.tmp 2]) rfl (by decide +kernel) (by kernel_rfl) rfl ?_
   rw [startE_eq 11 _ _ _ rfl rfl]
   simp only [go_sem, seval]
   refine call_of (h1) ?_
   simp only [go_sem, seval]
 | true =>
   rw [ha] at h1
   rw [Bool.true_and]
   refine good_run [] mixed Tryz.func14 rfl Tryz.ntmps14 (rs := [.tmp 2]) rfl (by decide +kernel) (by kernel_rfl) rfl ?_
   rw [startE_eq 11 _ _ _ rfl rfl]
   simp only [go_sem, seval]
   refine call_of (h1) ?_
   simp only [go_sem, seval]
   refine call_of (h2) ?_
   simp only [go_sem, seval]
theorem CopyBools_good (l : List Bool) (h : l.length ≤ 1000) : Ans Tryz.prog 88 [.sl (l.map encB)] (.sl (l.map encB)) := by
 have b1 : l.length * 1 ≤ 140737488355328 := by omega
 have b2 : l.length ≤ maxLen := by unfold maxLen; omega
 refine good_run [] mixed Tryz.func88 rfl Tryz.ntmps88 (rs := [.tmp 2]) rfl (by decide +kernel) (by kernel_rfl) rfl ?_
 rw [startE_eq 5 _ _ _ rfl rfl]
 simp only [go_sem, seval, b1, b2]
theorem OwnStg_good (x : Stg) (h : x.tags.length ≤ 1000) : Ans Tryz.prog 45 [.agg (encStg x)] (.agg (encStg x)) := by
 have hc := CopyBools_good x.tags h
 refine good_run [] mixed Tryz.func45 rfl Tryz.ntmps45 (rs := [.cell 2 91]) rfl (by decide +kernel) (by kernel_rfl) rfl ?_
 rw [startE_eq 9 _ _ _ rfl rfl]
 simp only [go_sem, seval]
 refine callD_of (hc) ?_
 simp only [go_sem, seval]
 decide +kernel
set_option maxHeartbeats 4000000 in
theorem OwnState_good (s : St) (h1 : s.jobs.length ≤ 1000) (h2 : s.spaces.length ≤ 1000) (h3 : ∀ x ∈ s.jobs, x.tags.length ≤ 1000) (h4 : ∀ x ∈ s.spaces, x.tags.length ≤ 1000) : Ans Tryz.prog 17 [.agg (encSt s)] (.agg (encSt s)) := by
 refine good_run [(7, [25, 26, 27, 28, 29, 30, 31, 32, 33, 34, 35, 36, 37, 38, 39, 40, 41, 42], [40, 201302091041]), (3, [7, 8, 9, 10, 11, 12, 13, 14, 15, 16, 17, 18, 19, 20, 21, 22, 23, 24], [22, 101302091023])] mixed Tryz.func17 rfl Tryz.ntmps17 (rs := [.cell 2 37]) rfl (by decide +kernel) (by kernel_rfl) rfl ?_
 rw [startE_eq 44 _ _ _ rfl rfl]
 simp only [go_sem, seval]
 refine loop_by ([7, 8, 9, 10, 11, 12, 13, 14, 15, 16, 17, 18, 19, 20, 21, 22, 23, 24], [22, 101302091023]) (fun i : Nat => [(.s 4, .int .i64 (i : Int)), (.o 22, deadV i), (.o 23, .obj (i + 1) 91 2 false true ((s.jobs.take i).map encStg)), (.o 3, .obj 1 37 2 false false [[.ref 23 (i + 1), .nils]])]) (fun i => s.jobs.length - i) (fun i => i ≤ s.jobs.length) 0 rfl (Nat.zero_le _) ?_ ?_
 · simp only [go_sem, seval]
 rintro c' st' hst i0 hi ih
 simp only [go_sem, seval]
 refine ifI (fun hlt => ?_) fun hlt => ?_
 · have hlt' : i0 < s.jobs.length := by omega
   have hl : (List.take i0 s.jobs).length ≤ 1000 := by rw [List.length_take]; omega
   have ho := OwnStg_good (nth s.jobs i0) (h3 _ (nth_mem hlt'))
   have hr := row_snoc (f := encStg) hlt'
   simp only [encStg] at hr
   simp only [go_sem, seval, hlt, hlt']
   refine callD_of (ho) ?_
   simp only [go_sem, seval, show ((List.take i0 s.jobs).length + 1) * 40 ≤ 140737488355328 by omega, show (List.take i0 s.jobs).length + 1 ≤ maxLen by unfold maxLen; omega]
   refine ⟨by decide +kernel, ?_⟩
   refine ih (i0 + 1) _ (by omega) (by omega) ?_
   simp only [go_sem, seval, wrap_succ (show i0 < 9223372036854775807 by omega), hr]
 have hn1 : s.jobs.length ≤ i0 := by omega
 subst hst
 clear ih hi
 simp only [go_sem, seval, hlt, List.take_of_length_le hn1]
 refine loop_by ([25, 26, 27, 28, 29, 30, 31, 32, 33, 34, 35, 36, 37, 38, 39, 40, 41, 42], [40, 201302091041]) (fun i : Nat => [(.s 5, .int .i64 (i : Int)), (.o 40, deadV i), (.o 41, .obj (i + 1) 91 2 false true ((s.spaces.take i).map encStg)), (.o 3, .obj 1 37 2 false false [[.ref 23 (i0 + 1), .ref 41 (i + 1)]])]) (fun i => s.spaces.length - i) (fun i => i ≤ s.spaces.length) 0 rfl (Nat.zero_le _) ?_ ?_
 · simp only [go_sem, seval]
 rintro c' st' hst i1 hi ih
 simp only [go_sem, seval]
 refine ifI (fun hlt => ?_) fun hlt => ?_
 · have hlt' : i1 < s.spaces.length := by omega
   have hl : (List.take i1 s.spaces).length ≤ 1000 := by rw [List.length_take]; omega
   have ho := OwnStg_good (nth s.spaces i1) (h4 _ (nth_mem hlt'))
   have hr := row_snoc (f := encStg) hlt'
   simp only [encStg] at hr
   simp only [go_sem, seval, hlt, hlt']
   refine callD_of (ho) ?_
   simp only [go_sem, seval, show ((List.take i1 s.spaces).length + 1) * 40 ≤ 140737488355328 by omega, show (List.take i1 s.spaces).length + 1 ≤ maxLen by unfold maxLen; omega]
   refine ⟨by decide +kernel, ?_⟩
   refine ih (i1 + 1) _ (by omega) (by omega) ?_
   simp only [go_sem, seval, wrap_succ (show i1 < 9223372036854775807 by omega), hr]
 have hn2 : s.spaces.length ≤ i1 := by omega
 subst hst
 simp only [go_sem, seval, hlt, List.take_of_length_le hn2]
end Go.Proofs.YtbhgehhmjpipiaaGreatDoor.C12
