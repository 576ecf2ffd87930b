/- Chapter 12: the smallest functions; cases. -/
import Derived.Test.YtbhgehhmjpipiaaGreatDoorD2
import Derived.Test.YtbhgehhmjpipiaaGreatDoorF15
set_option linter.unusedSimpArgs false
set_option linter.unusedVariables false
namespace Go.Proofs.YtbhgehhmjpipiaaGreatDoor.C12
open Go Go.Proofs Go.Proofs.YtbhgehhmjpipiaaGreatDoor.Ab Go.Proofs.YtbhgehhmjpipiaaGreatDoor.C10
set_option maxRecDepth 100000
attribute [local congr] ite_ctx
theorem pcond_good (c : Bool) (e : Int) : Ans Tryz.prog 35 [.bool c, .int .i64 e] (.int .i64 (if c = true then e else 0)) := by
 cases c
 · have h0 := e
   refine good_run [] mixed Tryz.func35 rfl Tryz.ntmps35 (rs := [.tmp 4]) rfl (by decide +kernel) (by kernel_rfl) rfl ?_
   rw [startE_eq 7 _ _ _ rfl rfl]
   simp only [go_sem, seval]
 · have h0 := e
   refine good_run [] mixed Tryz.func35 rfl Tryz.ntmps35 (rs := [.tmp 4]) rfl (by decide +kernel) (by kernel_rfl) rfl ?_
   rw [startE_eq 7 _ _ _ rfl rfl]
   simp only [go_sem, seval]
theorem pin_good (n lo hi : Int) : Ans Tryz.prog 69 [.int .i64 n, .int .i64 lo, .int .i64 hi] (.bool (inB n lo hi)) := by
 refine good_run [] mixed Tryz.func69 rfl Tryz.ntmps69 (rs := [.tmp 6]) rfl (by decide +kernel) (by kernel_rfl) rfl ?_
 rw [startE_eq 15 _ _ _ rfl rfl]
 simp (contextual := true) only [go_sem, ifP_eq, seval]
 split <;> simp_all [inB] <;> omega
theorem pinc_good (a n : Int) : Ans Tryz.prog 99 [.int .i64 a, .int .i64 n] (.bool (incB a n)) := by
 refine good_run [] mixed Tryz.func99 rfl Tryz.ntmps99 (rs := [.tmp 4]) rfl (by decide +kernel) (by kernel_rfl) rfl ?_
 rw [startE_eq 10 _ _ _ rfl rfl]
 simp only [go_sem, seval]
 rfl
theorem pfirst_good (l : List Int) (h : l.length ≤ 1000000) : Ans Tryz.prog 33 [.sl (l.map encInt)] (.int .i64 (firstE l)) := by
 refine good_run [(2, [2, 4, 8, 9, 10, 11, 12, 13, 14], [])] mixed Tryz.func33 rfl Tryz.ntmps33 (rs := [.tmp 2]) rfl (by decide +kernel) (by kernel_rfl) rfl ?_
 rw [startE_eq 15 _ _ _ rfl rfl]
 simp only [go_sem, seval]
 refine loop_by ([2, 4, 8, 9, 10, 11, 12, 13, 14], []) (fun i : Nat => [(.s 7, .int .i64 (i : Int))]) (fun i => l.length - i) (fun i => i ≤ l.length ∧ firstE l = firstE (l.drop i)) 0 rfl ⟨Nat.zero_le _, rfl⟩ rfl ?_
 rintro c' st' hst i ⟨hi, hf⟩ ih
 simp only [go_sem, seval]
 refine ifI (fun hlt => ?_) fun hlt => ?_
 · simp only [go_sem, seval, hlt]
   refine ifI (fun hn => ?_) fun hn => ?_
   · simp only [go_sem, seval, hn]
     rw [hf, drop_nth hlt, firstE, if_neg hn]
   · simp only [go_sem, seval, hn]
     refine ih (i + 1) _ ⟨by omega, ?_⟩ (by omega) ?_
     · rw [hf, drop_nth hlt, firstE, if_pos (by omega)]
     simp only [go_sem, seval, wrap_succ (show i < 9223372036854775807 by omega)]
 · subst hst
   simp only [go_sem, seval, hlt]
   rw [hf, List.drop_eq_nil_of_le (by omega)]; rfl
theorem pfirst2_good (a b : Int) : Ans Tryz.prog 33 [.sl [[.int .i64 a], [.int .i64 b]]] (.int .i64 (firstE [a, b])) := pfirst_good [a, b] (by simp)
def spB (c : Case) (o : Int) : Bool := inB o 0 ((c.sec.objects.length : Int) - 1) && decide ((nth c.sec.objects o.toNat).name.type = 20)
theorem spB_rng {c : Case} {o : Int} (h : spB c o = true) : 0 ≤ o ∧ o < (c.sec.objects.length : Int) := by
 simp only [spB, inB, Bool.and_eq_true, decide_eq_true_eq] at h; omega
theorem isSpace_good (c : Case) (o : Int) (h : c.sec.objects.length ≤ 1000000) : Ans Tryz.prog 98 [.agg (encCase c), .int .i64 o] (.bool (spB c o)) := by
 have w1 : IntKind.wrap .i64 ((c.sec.objects.length : Int) - 1) = (c.sec.objects.length : Int) - 1 := wrap_i64 (by omega) (by omega)
 have hg := pin_good o 0 ((c.sec.objects.length : Int) - 1)
 cases hin : inB o 0 ((c.sec.objects.length : Int) - 1) with
 | true =>
   have hb : 0 ≤ o ∧ o < (c.sec.objects.length : Int) := by simp only [inB, decide_eq_true_eq] at hin; omega
   have hbn : o.toNat < c.sec.objects.length := by omega
   have hs : spB c o = decide ((nth c.sec.objects o.toNat).name.type = 20) := by rw [spB, hin, Bool.true_and]
   rw [hin] at hg
   rw [hs]
   refine good_run [] mixed Tryz.func98 rfl Tryz.ntmps98 (rs := [.tmp 4]) rfl (by decide +kernel) (by kernel_rfl) rfl ?_
   rw [startE_eq 23 _ _ _ rfl rfl]
   simp only [go_sem, seval, w1]
   refine call_of (hg) ?_
   simp only [go_sem, seval, hb.1, hb.2, hbn]
 | false =>
   have hs : spB c o = false := by rw [spB, hin, Bool.false_and]
   rw [hin] at hg
   rw [hs]
   refine good_run [] mixed Tryz.func98 rfl Tryz.ntmps98 (rs := [.tmp 4]) rfl (by decide +kernel) (by kernel_rfl) rfl ?_
   rw [startE_eq 23 _ _ _ rfl rfl]
   simp only [go_sem, seval, w1]
   refine call_of (hg) ?_
   simp only [go_sem, seval]
theorem IsSpace_good (c : Case) (o : Int) (hb : 0 ≤ o ∧ o < (c.sec.objects.length : Int)) : Ans Tryz.prog 80 [.agg (encCase c), .int .i64 o] (.bool (spB c o)) := by
 have hbn : o.toNat < c.sec.objects.length := by omega
 have hs : spB c o = decide ((nth c.sec.objects o.toNat).name.type = 20) := by rw [spB, inB, decide_eq_true (by omega), Bool.true_and]
 rw [hs]
 refine good_run [] mixed Tryz.func80 rfl Tryz.ntmps80 (rs := [.tmp 4]) rfl (by decide +kernel) (by kernel_rfl) rfl ?_
 rw [startE_eq 14 _ _ _ rfl rfl]
 simp only [go_sem, seval, hb.1, hb.2, hbn]
def few12 (c : Case) : Bool := decide (c.users.length ≤ 6) && c.users.all small && fewB c.sec
theorem few12_fit {c : Case} (h : few12 c = true) : Fit c.sec ∧ c.users.length ≤ 6 := by
 simp only [few12, Bool.and_eq_true, decide_eq_true_eq] at h
 exact ⟨few_fit h.2, h.1.1⟩
theorem few12_end {c : Case} {i : Nat} (hi : i ≤ c.users.length) (hp : ∀ j, j < i → small (nth c.users j) = true) (h : ¬ ((i : Int) < (c.users.length : Int)) ∨ ¬ ((i : Int) ≤ 6)) : (c.users.length ≤ 6 → few12 c = fewB c.sec) ∧ (¬ c.users.length ≤ 6 → few12 c = false) := by
 constructor
 · intro h2
   have : c.users.all small = true := (all_nth c.users small).2 fun j hj => hp j (by omega)
   rw [few12, this, decide_eq_true h2]; rfl
 · intro h2
   rw [few12, decide_eq_false h2]; rfl
set_option maxHeartbeats 4000000 in
theorem few12_good (c : Case) : Ans Tryz.prog 9 [.agg (encCase c)] (.bool (few12 c)) := by
 have hfew := Few_good c.sec
 refine good_run [(2, [2, 4, 5, 6, 7, 8, 9, 10, 11, 12, 13, 14, 15, 16, 17, 18, 19, 20, 21], [])] mixed Tryz.func9 rfl Tryz.ntmps9 (rs := [.tmp 2]) rfl (by decide +kernel) (by kernel_rfl) rfl ?_
 rw [startE_eq 31 _ _ _ rfl rfl]
 simp only [go_sem, seval]
 refine loop_by ([2, 4, 5, 6, 7, 8, 9, 10, 11, 12, 13, 14, 15, 16, 17, 18, 19, 20, 21], []) (fun i : Nat => [(.s 3, .int .i64 (i : Int))]) (fun i => 7 - i) (fun i => i ≤ c.users.length ∧ i ≤ 7 ∧ ∀ j, j < i → small (nth c.users j) = true) 0 rfl ⟨Nat.zero_le _, Nat.zero_le _, fun j hj => absurd hj (Nat.not_lt_zero _)⟩ rfl ?_
 rintro c' st' hst i ⟨hi, hi2, hp⟩ ih
 have fin : ∀ (h : ¬ ((i : Int) < (c.users.length : Int)) ∨ ¬ ((i : Int) ≤ 6)), (c.users.length ≤ 6 → few12 c = fewB c.sec) ∧ (¬ c.users.length ≤ 6 → few12 c = false) := few12_end hi hp
 simp only [go_sem, seval]
 refine ifI (fun hlt => ?_) fun hlt => ?_
 · have hlt' : i < c.users.length := by omega
   simp only [go_sem, seval, hlt]
   refine ifI (fun h2 => ?_) fun h2 => ?_
   · simp only [go_sem, seval, hlt, hlt']
     refine ifI (fun h3 => ?_) fun h3 => ?_
     · simp only [go_sem, seval]
       rw [few12, all_not hlt' (small_not h3), Bool.and_false, Bool.false_and]
     · simp only [go_sem, seval]
       refine ih (i + 1) _ ⟨by omega, by omega, fun j hj => ?_⟩ (by omega) ?_
       · rcases Nat.lt_or_ge j i with h | h
         · exact hp j h
         · rw [show j = i by omega]; exact small_of h3
       · simp only [go_sem, seval, wrap_succ (show i < 9223372036854775807 by omega)]
   · subst hst
     have hn : ¬ c.users.length ≤ 6 := by omega
     have hn2 : ((c.users.length : Int) ≤ 6) = False := eq_false (by omega)
     simp only [go_sem, seval, hn2, decide_false]
     rw [(fin (.inr h2)).2 hn]
 · subst hst
   refine Classical.byCases (fun hn : c.users.length ≤ 6 => ?_) fun hn => ?_
   · have hn2 : ((c.users.length : Int) ≤ 6) = True := eq_true (by omega)
     simp only [go_sem, seval, hlt, hn2, decide_true]
     refine call_of (hfew) ?_
     simp only [go_sem, seval]
     rw [(fin (.inl (by omega))).1 hn]
   · have hn2 : ((c.users.length : Int) ≤ 6) = False := eq_false (by omega)
     simp only [go_sem, seval, hlt, hn2, decide_false]
     rw [(fin (.inl (by omega))).2 hn]
theorem Own12_good (c : Case) (hs : Fit c.sec) (hu : c.users.length ≤ 1000000) : Ans Tryz.prog 13 [.agg (encCase c)] (.agg (encCase c)) := by
 have h1 := Own_good c.sec hs
 have h2 := CopyStrings_good c.users hu
 refine good_run [] mixed Tryz.func13 rfl Tryz.ntmps13 (rs := [.cell 2 29]) rfl (by decide +kernel) (by kernel_rfl) rfl ?_
 rw [startE_eq 10 _ _ _ rfl rfl]
 simp only [go_sem, seval]
 refine callD_of (h1) ?_
 simp only [go_sem, seval]
 refine callD_of (h2) ?_
 simp only [go_sem, seval]
 decide +kernel
set_option maxRecDepth 100000
theorem Err10_good (s : Sec) (hs : Fit s) : Ans Tryz.prog 64 [.agg (encSec s)] (.int .i64 (secE s).2) := by
 refine good_run [] mixed Tryz.func64 rfl Tryz.ntmps64 (rs := [.tmp 2]) rfl (by decide +kernel) (by kernel_rfl) rfl ?_
 rw [startE_eq 11 _ _ _ rfl rfl]
 simp only [go_sem, seval]
 refine call_of (Check_good s hs) ?_
 simp only [go_sem, seval]
theorem isProf12_good (p : Prof) (n : ByteArray) : Ans Tryz.prog 112 [.agg (encProf p), .ptr [.str n]] (.bool (decide (p.name = n))) := by
 refine good_run [] mixed Tryz.func112 rfl Tryz.ntmps112 (rs := [.tmp 3]) rfl (by decide +kernel) (by kernel_rfl) rfl ?_
 rw [startE_eq 8 _ _ _ rfl rfl]
 simp only [go_sem, seval]
theorem IndexP12_good (l : List Prof) (n : ByteArray) (h : l.length ≤ 1000000) : Ans Tryz.prog 149 [.sl (l.map encProf), .fn 112 [.ptr [.str n]]] (.int .i64 (findIx (fun p => decide (p.name = n)) l 0)) := by
 refine good_run [(2, [4, 5, 9, 10, 11, 12, 13, 14, 15, 16, 17, 18], [])] mixed Tryz.func149 rfl Tryz.ntmps149 (rs := [.tmp 4]) rfl (by decide +kernel) (by kernel_rfl) rfl ?_
 rw [startE_eq 19 _ _ _ rfl rfl]
 simp only [go_sem, seval]
 refine loop_by ([4, 5, 9, 10, 11, 12, 13, 14, 15, 16, 17, 18], []) (fun i : Nat => [(.s 8, .int .i64 (i : Int))]) (fun i => l.length - i) (fun i => i ≤ l.length ∧ findIx (fun p => decide (p.name = n)) l 0 = findIx (fun p => decide (p.name = n)) (l.drop i) i) 0 rfl ⟨Nat.zero_le _, rfl⟩ rfl ?_
 rintro c' st' hst i ⟨hi, hf⟩ ih
 simp only [go_sem, seval]
 refine ifI (fun hlt => ?_) fun hlt => ?_
 · simp only [go_sem, seval, hlt]
   refine call_of (isProf12_good (nth l i) n) ?_
   simp only [go_sem, seval]
   refine ifI (fun hn => ?_) fun hn => ?_
   · simp only [go_sem, seval, hn]
     rw [hf, drop_nth hlt, findIx, if_pos (by simpa using hn)]
   · simp only [go_sem, seval, hn]
     refine ih (i + 1) _ ⟨by omega, ?_⟩ (by omega) ?_
     · rw [hf, drop_nth hlt, findIx, if_neg (by simpa using hn)]
     simp only [go_sem, seval, wrap_succ (show i < 9223372036854775807 by omega)]
 · subst hst
   simp only [go_sem, seval, hlt]
   rw [hf, List.drop_eq_nil_of_le (by omega)]; rfl
theorem ContainsP_good (s : Sec) (n : ByteArray) (h : s.profiles.length ≤ 1000000) : Ans Tryz.prog 111 [.sl (s.profiles.map encProf), .fn 112 [.ptr [.str n]]] (.bool (decide (0 ≤ profIx s n))) := by
 refine good_run [] mixed Tryz.func111 rfl Tryz.ntmps111 (rs := [.tmp 4]) rfl (by decide +kernel) (by kernel_rfl) rfl ?_
 rw [startE_eq 9 _ _ _ rfl rfl]
 simp only [go_sem, seval]
 refine call_of (IndexP12_good s.profiles n h) ?_
 simp only [go_sem, seval]
 rfl
def missIx (c : Case) : Int := findIx (fun u => decide (profIx c.sec u < 0)) c.users 0
def caseE (c : Case) : Int × Int := if ¬ (secE c.sec).2 = 0 then (0, (secE c.sec).2) else if 5 < c.sec.objects.length ∨ 3 < c.users.length then (0, 2) else if c.users.length = 0 then (0, 1)
 else if 0 ≤ missIx c then (missIx c, 11) else ((c.users.length : Int), 0)
theorem condT (e : Int) : Ans Tryz.prog 35 [.bool true, .int .i64 e] (.int .i64 e) := by have := pcond_good true e; rwa [if_pos rfl] at this
theorem condF (e : Int) : Ans Tryz.prog 35 [.bool false, .int .i64 e] (.int .i64 0) := by have := pcond_good false e; rwa [if_neg (by decide)] at this
theorem first2_2 (y : Int) : Ans Tryz.prog 33 [.sl [[.int .i64 2], [.int .i64 y]]] (.int .i64 2) := by have := pfirst2_good 2 y; simpa [firstE] using this
theorem first2_0 (y : Int) : Ans Tryz.prog 33 [.sl [[.int .i64 0], [.int .i64 y]]] (.int .i64 y) := by
 have := pfirst2_good 0 y
 have e : firstE [0, y] = y := by simp [firstE]; intro h; exact h.symm
 rwa [e] at this
set_option maxHeartbeats 4000000 in
theorem CheckCase_good (c : Case) (hs : Fit c.sec) (hu : c.users.length ≤ 1000) : Ans Tryz.prog 66 [.agg (encCase c)] (.tup [.int .i64 (caseE c).1, .int .i64 (caseE c).2]) := by
 have hE : caseE c = if ¬ (secE c.sec).2 = 0 then (0, (secE c.sec).2) else if 5 < c.sec.objects.length ∨ 3 < c.users.length then (0, 2) else if c.users.length = 0 then (0, 1) else if 0 ≤ missIx c then (missIx c, 11) else ((c.users.length : Int), 0) := rfl
 have hck := CheckSecurity_good c.sec hs
 generalize hr : caseE c = r at hE
 refine Classical.byCases (fun h0 : (secE c.sec).2 = 0 => ?_) fun h0 => ?_
 case refine_2 =>
  rw [if_pos h0] at hE
  rw [hE]
  refine good_run [(8, [2, 3, 7, 8, 44, 45, 46, 47, 48, 49, 50, 51, 52, 53, 54, 55], [8])] mixed Tryz.func66 rfl Tryz.ntmps66 (rs := [.tmp 2, .tmp 3]) rfl (by decide +kernel) (by kernel_rfl) rfl ?_
  rw [startE_eq 59 _ _ _ rfl rfl]
  simp only [go_sem, seval]
  refine call_of (hck) ?_
  simp only [go_sem, seval, h0]
 rw [if_neg (by rw [h0]; exact fun q => q rfl)] at hE
 rw [h0] at hck
 refine Classical.byCases (fun h5 : (c.sec.objects.length : Int) > 5 => ?_) fun h5 => ?_
 · rw [if_pos (.inl (by omega))] at hE
   have h5t : ((c.sec.objects.length : Int) > 5) = True := eq_true h5
   rw [hE]
   refine good_run [(8, [2, 3, 7, 8, 44, 45, 46, 47, 48, 49, 50, 51, 52, 53, 54, 55], [8])] mixed Tryz.func66 rfl Tryz.ntmps66 (rs := [.tmp 2, .tmp 3]) rfl (by decide +kernel) (by kernel_rfl) rfl ?_
   rw [startE_eq 59 _ _ _ rfl rfl]
   simp only [go_sem, seval]
   refine call_of (hck) ?_
   simp only [go_sem, seval, h5t, decide_true]
   refine callD_of (condT 2) ?_
   simp only [go_sem, seval]
   refine callD_of (pcond_good _ _) ?_
   simp only [go_sem, seval]
   refine callD_of (first2_2 _) ?_
   simp only [go_sem, seval]
   decide +kernel
 have h5f : ((c.sec.objects.length : Int) > 5) = False := eq_false h5
 refine Classical.byCases (fun h3 : (c.users.length : Int) > 3 => ?_) fun h3 => ?_
 · rw [if_pos (.inr (by omega))] at hE
   have h3t : ((c.users.length : Int) > 3) = True := eq_true h3
   rw [hE]
   refine good_run [(8, [2, 3, 7, 8, 44, 45, 46, 47, 48, 49, 50, 51, 52, 53, 54, 55], [8])] mixed Tryz.func66 rfl Tryz.ntmps66 (rs := [.tmp 2, .tmp 3]) rfl (by decide +kernel) (by kernel_rfl) rfl ?_
   rw [startE_eq 59 _ _ _ rfl rfl]
   simp only [go_sem, seval]
   refine call_of (hck) ?_
   simp only [go_sem, seval, h5f, h3t, decide_true, decide_false]
   refine callD_of (condT 2) ?_
   simp only [go_sem, seval]
   refine callD_of (pcond_good _ _) ?_
   simp only [go_sem, seval]
   refine callD_of (first2_2 _) ?_
   simp only [go_sem, seval]
   decide +kernel
 have h3f : ((c.users.length : Int) > 3) = False := eq_false h3
 rw [if_neg (by omega)] at hE
 refine Classical.byCases (fun hz : c.users.length = 0 => ?_) fun hz => ?_
 · rw [if_pos hz] at hE
   have hzt : ((c.users.length : Int) = 0) = True := eq_true (by omega)
   rw [hE]
   refine good_run [(8, [2, 3, 7, 8, 44, 45, 46, 47, 48, 49, 50, 51, 52, 53, 54, 55], [8])] mixed Tryz.func66 rfl Tryz.ntmps66 (rs := [.tmp 2, .tmp 3]) rfl (by decide +kernel) (by kernel_rfl) rfl ?_
   rw [startE_eq 59 _ _ _ rfl rfl]
   simp only [go_sem, seval]
   refine call_of (hck) ?_
   simp only [go_sem, seval, h5f, h3f, hzt, decide_true, decide_false]
   refine callD_of (condF 2) ?_
   simp only [go_sem, seval, hzt, decide_true]
   refine callD_of (condT 1) ?_
   simp only [go_sem, seval]
   refine callD_of (first2_0 _) ?_
   simp only [go_sem, seval]
   decide +kernel
 rw [if_neg hz] at hE
 have hzf : ((c.users.length : Int) = 0) = False := eq_false (by omega)
 have hm : missIx c = findIx (fun u => decide (profIx c.sec u < 0)) (c.users.drop 0) 0 := rfl
 generalize missIx c = m at hE hm
 refine good_run [(8, [2, 3, 7, 8, 44, 45, 46, 47, 48, 49, 50, 51, 52, 53, 54, 55], [8])] mixed Tryz.func66 rfl Tryz.ntmps66 (rs := [.tmp 2, .tmp 3]) rfl (by decide +kernel) (by kernel_rfl) rfl ?_
 rw [startE_eq 59 _ _ _ rfl rfl]
 simp only [go_sem, seval]
 refine call_of (hck) ?_
 simp only [go_sem, seval, h5f, h3f, hzf, decide_true, decide_false]
 refine callD_of (condF 2) ?_
 simp only [go_sem, seval, hzf, decide_false]
 refine callD_of (condF 1) ?_
 simp only [go_sem, seval]
 refine callD_of (first2_0 _) ?_
 simp only [go_sem, seval]
 refine ⟨by decide +kernel, ?_⟩
 refine loop_by ([2, 3, 7, 8, 44, 45, 46, 47, 48, 49, 50, 51, 52, 53, 54, 55], [8]) (fun i : Nat => [(.s 43, .int .i64 (i : Int)), (.o 8, deadV i)]) (fun i => c.users.length - i) (fun i => i ≤ c.users.length ∧ m = findIx (fun u => decide (profIx c.sec u < 0)) (c.users.drop i) i) 0 rfl ⟨Nat.zero_le _, hm⟩ rfl ?_
 rintro c' st' hst i ⟨hi, hf⟩ ih
 simp only [go_sem, seval]
 refine ifI (fun hlt => ?_) fun hlt => ?_
 · have hlt' : i < c.users.length := by omega
   simp only [go_sem, seval, hlt, hlt']
   refine call_of (ContainsP_good c.sec (nth c.users i) hs.profiles) ?_
   simp only [go_sem, seval]
   refine Classical.byCases (fun hn : 0 ≤ profIx c.sec (nth c.users i) => ?_) fun hn => ?_
   · simp only [go_sem, seval, hn, decide_true, Bool.not_true]
     refine ih (i + 1) _ ⟨by omega, ?_⟩ (by omega) ?_
     · rw [hf, drop_nth hlt', findIx, if_neg (by simp; omega)]
     simp only [go_sem, seval, wrap_succ (show i < 9223372036854775807 by omega)]
   · simp only [go_sem, seval, hn, decide_false, Bool.not_false]
     have : m = (i : Int) := by rw [hf, drop_nth hlt', findIx, if_pos (by simp; omega)]
     rw [if_pos (by omega)] at hE
     rw [hE, this]; exact ⟨rfl, rfl⟩
 · subst hst
   simp only [go_sem, seval, hlt]
   have : m = -1 := by rw [hf, List.drop_eq_nil_of_le (by omega)]; rfl
   rw [if_neg (by omega)] at hE
   rw [hE]; exact ⟨rfl, rfl⟩
theorem caseErr_good (c : Case) (hs : Fit c.sec) (hu : c.users.length ≤ 1000) : Ans Tryz.prog 34 [.agg (encCase c)] (.int .i64 (caseE c).2) := by
 refine good_run [] mixed Tryz.func34 rfl Tryz.ntmps34 (rs := [.tmp 2]) rfl (by decide +kernel) (by kernel_rfl) rfl ?_
 rw [startE_eq 11 _ _ _ rfl rfl]
 simp only [go_sem, seval]
 refine call_of (CheckCase_good c hs hu) ?_
 simp only [go_sem, seval]
set_option maxRecDepth 100000
set_option maxHeartbeats 4000000 in
theorem Check12_good (c : Case) (hs : Fit c.sec) (hu : c.users.length ≤ 1000) : Ans Tryz.prog 32 [.agg (encCase c)] (.tup [.int .i64 (caseE c).1, .int .i64 (caseE c).2]) := by
 have hE : caseE c = if ¬ (secE c.sec).2 = 0 then (0, (secE c.sec).2) else if 5 < c.sec.objects.length ∨ 3 < c.users.length then (0, 2) else if c.users.length = 0 then (0, 1) else if 0 ≤ missIx c then (missIx c, 11) else ((c.users.length : Int), 0) := rfl
 have hck := Err10_good c.sec hs
 generalize hr : caseE c = r at hE
 refine Classical.byCases (fun h0 : (secE c.sec).2 = 0 => ?_) fun h0 => ?_
 case refine_2 =>
  rw [if_pos h0] at hE
  rw [hE]
  refine good_run [(9, [2, 3, 27, 28, 29, 30, 31, 32, 33, 34, 35, 36, 37, 38, 39, 40, 41, 42, 43], [])] mixed Tryz.func32 rfl Tryz.ntmps32 (rs := [.tmp 2, .tmp 3]) rfl (by decide +kernel) (by kernel_rfl) rfl ?_
  rw [startE_eq 47 _ _ _ rfl rfl]
  simp only [go_sem, seval]
  refine call_of (hck) ?_
  simp only [go_sem, seval, h0]
 rw [if_neg (by rw [h0]; exact fun q => q rfl)] at hE
 rw [h0] at hck
 refine Classical.byCases (fun h5 : (c.sec.objects.length : Int) > 5 => ?_) fun h5 => ?_
 · rw [if_pos (.inl (by omega))] at hE
   have h5t : ((c.sec.objects.length : Int) > 5) = True := eq_true h5
   rw [hE]
   refine good_run [(9, [2, 3, 27, 28, 29, 30, 31, 32, 33, 34, 35, 36, 37, 38, 39, 40, 41, 42, 43], [])] mixed Tryz.func32 rfl Tryz.ntmps32 (rs := [.tmp 2, .tmp 3]) rfl (by decide +kernel) (by kernel_rfl) rfl ?_
   rw [startE_eq 47 _ _ _ rfl rfl]
   simp only [go_sem, seval]
   refine call_of (hck) ?_
   simp only [go_sem, seval, h5t, decide_true]
 have h5f : ((c.sec.objects.length : Int) > 5) = False := eq_false h5
 refine Classical.byCases (fun h3 : (c.users.length : Int) > 3 => ?_) fun h3 => ?_
 · rw [if_pos (.inr (by omega))] at hE
   have h3t : ((c.users.length : Int) > 3) = True := eq_true h3
   rw [hE]
   refine good_run [(9, [2, 3, 27, 28, 29, 30, 31, 32, 33, 34, 35, 36, 37, 38, 39, 40, 41, 42, 43], [])] mixed Tryz.func32 rfl Tryz.ntmps32 (rs := [.tmp 2, .tmp 3]) rfl (by decide +kernel) (by kernel_rfl) rfl ?_
   rw [startE_eq 47 _ _ _ rfl rfl]
   simp only [go_sem, seval]
   refine call_of (hck) ?_
   simp only [go_sem, seval, h5f, h3t, decide_true, decide_false]
 have h3f : ((c.users.length : Int) > 3) = False := eq_false h3
 rw [if_neg (by omega)] at hE
 refine Classical.byCases (fun hz : c.users.length = 0 => ?_) fun hz => ?_
 · rw [if_pos hz] at hE
   have hzt : ((c.users.length : Int) = 0) = True := eq_true (by omega)
   rw [hE]
   refine good_run [(9, [2, 3, 27, 28, 29, 30, 31, 32, 33, 34, 35, 36, 37, 38, 39, 40, 41, 42, 43], [])] mixed Tryz.func32 rfl Tryz.ntmps32 (rs := [.tmp 2, .tmp 3]) rfl (by decide +kernel) (by kernel_rfl) rfl ?_
   rw [startE_eq 47 _ _ _ rfl rfl]
   simp only [go_sem, seval]
   refine call_of (hck) ?_
   simp only [go_sem, seval, h5f, h3f, hzt, decide_true, decide_false]
 rw [if_neg hz] at hE
 have hzf : ((c.users.length : Int) = 0) = False := eq_false (by omega)
 have hm : missIx c = findIx (fun u => decide (profIx c.sec u < 0)) (c.users.drop 0) 0 := rfl
 generalize missIx c = m at hE hm
 refine good_run [(9, [2, 3, 27, 28, 29, 30, 31, 32, 33, 34, 35, 36, 37, 38, 39, 40, 41, 42, 43], [])] mixed Tryz.func32 rfl Tryz.ntmps32 (rs := [.tmp 2, .tmp 3]) rfl (by decide +kernel) (by kernel_rfl) rfl ?_
 rw [startE_eq 47 _ _ _ rfl rfl]
 simp only [go_sem, seval]
 refine call_of (hck) ?_
 simp only [go_sem, seval, h5f, h3f, hzf, decide_true, decide_false]
 refine loop_by ([2, 3, 27, 28, 29, 30, 31, 32, 33, 34, 35, 36, 37, 38, 39, 40, 41, 42, 43], []) (fun i : Nat => [(.s 5, .int .i64 (i : Int))]) (fun i => c.users.length - i) (fun i => i ≤ c.users.length ∧ m = findIx (fun u => decide (profIx c.sec u < 0)) (c.users.drop i) i) 0 rfl ⟨Nat.zero_le _, hm⟩ rfl ?_
 rintro c' st' hst i ⟨hi, hf⟩ ih
 simp only [go_sem, seval]
 refine ifI (fun hlt => ?_) fun hlt => ?_
 · have hlt' : i < c.users.length := by omega
   simp only [go_sem, seval, hlt, hlt']
   refine callD_of (User_good c.sec (nth c.users i) hs.profiles) ?_
   simp only [go_sem, seval]
   refine ⟨by decide +kernel, ?_⟩
   have hge := findIx_ge (fun p : Prof => decide (p.name = nth c.users i)) c.sec.profiles 0
   refine ifI (fun hn => ?_) fun hn => ?_
   · simp only [go_sem, seval, hn]
     have hneg : profIx c.sec (nth c.users i) < 0 := by show findIx _ _ _ < 0; omega
     have : m = (i : Int) := by rw [hf, drop_nth hlt', findIx, if_pos (by simpa using hneg)]
     rw [if_pos (by omega)] at hE
     rw [hE, this]; exact ⟨rfl, rfl⟩
   · simp only [go_sem, seval, hn]
     have hneg : ¬ profIx c.sec (nth c.users i) < 0 := by show ¬ findIx _ _ _ < 0; omega
     refine ih (i + 1) _ ⟨by omega, ?_⟩ (by omega) ?_
     · rw [hf, drop_nth hlt', findIx, if_neg (by simpa using hneg)]
     simp only [go_sem, seval, wrap_succ (show i < 9223372036854775807 by omega)]
 · subst hst
   simp only [go_sem, seval, hlt]
   have : m = -1 := by rw [hf, List.drop_eq_nil_of_le (by omega)]; rfl
   rw [if_neg (by omega)] at hE
   rw [hE]; exact ⟨rfl, rfl⟩
theorem Err12_good (c : Case) (hs : Fit c.sec) (hu : c.users.length ≤ 1000) : Ans Tryz.prog 11 [.agg (encCase c)] (.int .i64 (caseE c).2) := by
 refine good_run [] mixed Tryz.func11 rfl Tryz.ntmps11 (rs := [.tmp 2]) rfl (by decide +kernel) (by kernel_rfl) rfl ?_
 rw [startE_eq 11 _ _ _ rfl rfl]
 simp only [go_sem, seval]
 refine call_of (Check12_good c hs hu) ?_
 simp only [go_sem, seval]
structure Right (c : Case) : Prop where
 fit : Fit c.sec
 err : (secE c.sec).2 = 0
 sound : Sound c.sec
 J : 1 ≤ c.users.length ∧ c.users.length ≤ 3
 O : c.sec.objects.length ≤ 5
 user : ∀ j, j < c.users.length → 0 ≤ profIx c.sec (nth c.users j)
theorem right_of {c : Case} (hs : Fit c.sec) (h : (caseE c).2 = 0) : Right c := by
 unfold caseE at h
 split at h
 · rename_i q; exact absurd h q
 rename_i q0
 have h0 : (secE c.sec).2 = 0 := Classical.not_not.1 q0
 split at h
 · cases h
 rename_i q1
 split at h
 · cases h
 rename_i q2
 split at h
 · cases h
 rename_i q3
 refine ⟨hs, h0, sound_of hs h0, by omega, by omega, fun j hj => ?_⟩
 have hany := findIx_any (fun u => decide (profIx c.sec u < 0)) c.users 0
 rw [show decide (0 ≤ findIx (fun u => decide (profIx c.sec u < 0)) c.users 0) = false from decide_eq_false q3] at hany
 have := List.any_eq_false.1 hany.symm _ (nth_mem hj)
 have h2 : ¬ profIx c.sec (nth c.users j) < 0 := by simpa using this
 omega
def auI (c : Case) (j k : Nat) : Int := (authorityP c.sec (nth c.users j) (nth c.sec.objects k)).auth
theorem userAuthority_good {c : Case} (h : Right c) {j k : Nat} (hj : j < c.users.length) (hk : k < c.sec.objects.length) : Ans Tryz.prog 73 [.agg (encCase c), .int .i64 (j : Int), .int .i64 (k : Int)] (.int .i64 (auI c j k)) := by
 have hA := AuthorityOf_good c.sec (nth c.users j) (k : Int) h.fit
 have hu : userE c.sec (nth c.users j) = 0 := by have := h.user j hj; unfold userE; rw [if_neg (by omega)]
 have hx : ixE c.sec (k : Int) = 0 := by unfold ixE; rw [if_neg (by simp [inB]; omega)]
 have he : authErr c.sec (nth c.users j) (k : Int) = 0 := by unfold authErr; rw [h.err, hu, hx]; rfl
 rw [AuthorityOfP, if_neg (by rw [he]; exact fun q => q rfl)] at hA
 have e2 : authorityP c.sec (nth c.users j) (objOf c.sec (k : Int)) = authorityP c.sec (nth c.users j) (nth c.sec.objects k) := by unfold objOf; rw [Int.toNat_natCast]
 have hau : auI c j k = (authorityP c.sec (nth c.users j) (nth c.sec.objects k)).auth := rfl
 simp only [e2] at hA
 rw [hau]
 have hj2 : (j : Int) < (c.users.length : Int) := by omega
 refine good_run [] mixed Tryz.func73 rfl Tryz.ntmps73 (rs := [.tmp 6]) rfl (by decide +kernel) (by kernel_rfl) rfl ?_
 rw [startE_eq 23 _ _ _ rfl rfl]
 simp only [go_sem, seval, hj, hj2]
 refine callD_of (hA) ?_
 simp only [go_sem, seval]
 decide +kernel
end Go.Proofs.YtbhgehhmjpipiaaGreatDoor.C12
