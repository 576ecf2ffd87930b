/- Chapter 10: the reference's check of the whole. -/
import Derived.Test.YtbhgehhmjpipiaaGreatDoorF8
set_option linter.unusedSimpArgs false
namespace Go.Proofs.YtbhgehhmjpipiaaGreatDoor.C10
open Go Go.Proofs Go.Proofs.YtbhgehhmjpipiaaGreatDoor.Ab
set_option maxRecDepth 100000
attribute [local congr] ite_ctx
theorem ord_iff (i : Nat) (a b : ByteArray) : (decide (0 < i) && !sLt a b) = true ↔ (0 < i ∧ (Go.Op.bytesLess b.toList a.toList || b.toList == a.toList) = true) := by
 rw [← lt_trich, Bool.and_eq_true, decide_eq_true_eq]; rfl
theorem profE_cases (s : Sec) (i : Nat) : profE s i = if isNm (nth s.profiles i).name = false then 7
 else if 0 < i ∧ (Go.Op.bytesLess (nth s.profiles i).name.toList (nth s.profiles (i - 1)).name.toList || (nth s.profiles i).name.toList == (nth s.profiles (i - 1)).name.toList) = true then 14
 else if inB (nth s.profiles i).special 0 63 = false then 3 else if (4 : Int) < ((nth s.profiles i).groups.length : Int) then 2 else 0 := by
 rw [profE_def]
 simp only [firstE, ord_iff]
 cases isNm (nth s.profiles i).name
 · rfl
 · simp only [Bool.not_true, Bool.false_eq_true, if_false, if_true, Bool.true_eq_false]
   split
   · rfl
   · cases inB (nth s.profiles i).special 0 63
     · rfl
     · simp only [Bool.not_true, Bool.false_eq_true, if_false, if_true, Bool.true_eq_false]
       split <;> rfl
theorem listE_cases (s : Sec) (i : Nat) : listE s i = if isNm (nth s.lists i).name = false then 7
 else if 0 < i ∧ (Go.Op.bytesLess (nth s.lists i).name.toList (nth s.lists (i - 1)).name.toList || (nth s.lists i).name.toList == (nth s.lists (i - 1)).name.toList) = true then 14
 else if findIx (fun p => decide (p.name = (nth s.lists i).owner)) s.profiles 0 = -1 then 11
 else if grantsE s (nth s.lists i).grants ≠ 0 then grantsE s (nth s.lists i).grants else if inB (nth s.lists i).pub 0 1023 = false then 3 else 0 := by
 rw [listE_def]
 have g1 := findIx_ge (fun p => decide (p.name = (nth s.lists i).owner)) s.profiles 0
 have e1 : ∀ F : Int, F = -1 ∨ ((0 : Nat) : Int) ≤ F ∧ F < ((0 : Nat) : Int) + s.profiles.length → ((F < 0) ↔ F = -1) := fun F h => by omega
 simp only [firstE, ord_iff, e1 _ g1]
 clear g1 e1
 generalize findIx _ s.profiles 0 = F
 cases isNm (nth s.lists i).name
 · rfl
 · simp only [Bool.not_true, Bool.false_eq_true, if_false, if_true, Bool.true_eq_false]
   split
   · rfl
   · by_cases c3 : F = -1
     · simp [c3]
     · simp only [c3, if_false, if_true]
       by_cases c4 : grantsE s (nth s.lists i).grants = 0
       · simp only [c4, ne_eq, not_true_eq_false, if_false, if_true]
         cases inB (nth s.lists i).pub 0 1023 <;> rfl
       · simp [c4]
theorem findIx_take {α : Type} (p : α → Bool) : ∀ (l : List α) (j k : Nat), 0 ≤ findIx p l j → (findIx p l j < ((j + k : Nat) : Int) ↔ (l.take k).any p = true)
 | [], j, k, h => by simp [findIx] at h
 | a :: l, j, 0, h => by
   have := findIx_ge p (a :: l) j
   simp; omega
 | a :: l, j, k + 1, h => by
   rw [findIx] at h ⊢
   cases hp : p a
   · simp only [hp, Bool.false_eq_true, if_false] at h ⊢
     have := findIx_take p l (j + 1) k h
     rw [show j + 1 + k = j + (k + 1) by omega] at this
     rw [this]; simp [hp]
   · simp [hp]; omega
theorem grpF_cases (s : Sec) (l : List ByteArray) (k : Nat) (F : Int) (hF : F = -1 ∨ 0 ≤ F) : grpF s l k F = if F = -1 then 11 else if (0 : Int) < ((nth s.profiles F.toNat).groups.length : Int) then 15
 else if ((l.take k).any fun p => decide (p = nth l k)) = true then 13 else 0 := by
 rw [grpF]
 rcases hF with rfl | hF
 · rfl
 · have h1 : ¬ F < 0 := by omega
   have h2 : ¬ F = -1 := by omega
   simp only [firstE, h1, h2, if_false, if_true, decide_eq_true hF, Bool.true_and, decide_eq_true_eq]
   split
   · rfl
   · simp only [if_true]
     split <;> rfl
theorem self_found (l : List ByteArray) (k : Nat) (h : k < l.length) : 0 ≤ findIx (fun p => decide (p = nth l k)) l 0 := by
 have := findIx_any (fun p => decide (p = nth l k)) l 0
 have h2 : (l.any fun p => decide (p = nth l k)) = true := by
  rw [List.any_eq_true]; exact ⟨nth l k, nth_mem h, by simp⟩
 rw [h2, decide_eq_true_eq] at this
 exact this
set_option maxHeartbeats 8000000 in
theorem Check_good (s : Sec) (hs : Fit s) : Ans Tryz.prog 109 [.agg (encSec s)] (.tup [.int .i64 (secE s).1, .int .i64 (secE s).2]) := by
 refine good_run [(45, [2, 3, 14, 180, 181, 182, 183, 184, 185, 186, 187, 188, 189, 190, 191, 192, 193], []), (30, [2, 3, 11, 12, 126, 127, 128, 129, 130, 131, 132, 133, 134, 135, 136, 137, 138, 139, 140, 141, 142, 143, 144, 145, 146, 147, 148, 149, 150, 151, 152, 153, 154, 155, 156, 157, 158, 159, 160, 161, 162, 163, 164, 165, 166, 167, 168, 169, 170, 171, 172, 173, 174, 175, 176, 177, 178, 179], [11]), (20, [2, 3, 9, 90, 91, 92, 93, 94, 95, 96, 97, 98, 99, 100, 101, 102, 103, 104, 105, 106, 107, 108, 109, 110, 111, 112, 113, 114, 115, 116, 117, 118, 119, 120, 121, 122, 123, 124, 125], []), (16, [2, 3, 7, 8, 9, 77, 78, 79, 80, 81, 82, 83, 84, 85, 86, 87, 88, 89, 90, 91, 92, 93, 94, 95, 96, 97, 98, 99, 100, 101, 102, 103, 104, 105, 106, 107, 108, 109, 110, 111, 112, 113, 114, 115, 116, 117, 118, 119, 120, 121, 122, 123, 124, 125], []), (4, [2, 3, 5, 31, 32, 33, 34, 35, 36, 37, 38, 39, 40, 41, 42, 43, 44, 45, 46, 47, 48, 49, 50, 51, 52, 53, 54, 55, 56, 57, 58, 59, 60, 61, 62, 63, 64, 65, 66, 67, 68, 69, 70, 71, 72, 73, 74, 75, 76], [5]), (1000020, [4, 24], [20, 21, 22, 23]), (1000026, [4, 30], [26, 27, 28, 29]), (2000009, [0, 49], [50, 51, 52, 53, 54, 55, 56, 57, 58, 59, 60, 61, 62, 63]), (2000035, [0, 144], [145, 146, 147, 148, 149, 150, 151, 152, 153, 154, 155, 156, 157, 158])] mixed Tryz.func109 rfl Tryz.ntmps109 (rs := [.tmp 2, .tmp 3]) rfl (by decide +kernel) (by kernel_rfl) rfl ?_
 rw [startE_eq 197 _ _ _ rfl rfl]
 simp only [go_sem, seval]
 refine join_of (decide ((12 : Int) < (s.profiles.length : Int)) || decide ((6 : Int) < (s.lists.length : Int))) ?_ ?_
 · simp (contextual := true) only [go_sem, ifP_eq, seval]
   try (split <;> simp_all)
 simp only [go_sem, seval]
 refine join_of ((decide ((12 : Int) < (s.profiles.length : Int)) || decide ((6 : Int) < (s.lists.length : Int))) || decide ((8 : Int) < (s.objects.length : Int))) ?_ ?_
 · simp (contextual := true) only [go_sem, ifP_eq, seval]
   try (split <;> simp_all)
 simp only [go_sem, seval]
 refine ifI (fun h => ?_) fun h => ?_
 · simp only [go_sem, seval, h]
   simp only [Bool.or_eq_true, decide_eq_true_eq] at h
   have hS : secE s = (0, 2) := by
    rw [secE]; split
    · rfl
    · split
      · rfl
      · rw [if_pos (by omega)]
   rw [hS]; exact ⟨rfl, rfl⟩
 simp only [Bool.or_eq_true, decide_eq_true_eq] at h
 simp only [go_sem, seval, h]
 have hE : secE s = if (profilesE s).2 ≠ 0 then profilesE s else if (scanI (listE s) s.lists.length 0).2 ≠ 0 then scanI (listE s) s.lists.length 0
  else if (scanI (objE s) s.objects.length 0).2 ≠ 0 then scanI (objE s) s.objects.length 0 else ((s.objects.length : Int), 0) := by
  rw [secE, if_neg (by omega), if_neg (by omega), if_neg (by omega)]
 have hE1 : ∀ r : Int × Int, scanI (profE s) s.profiles.length 0 = r → r.2 ≠ 0 → secE s = r := fun r h1 h2 => by
  have hp : profilesE s = r := by rw [profilesE, h1, if_pos h2]
  rw [hE, hp, if_pos h2]
 have hP : scanI (profE s) s.profiles.length 0 = (0, 0) → profilesE s = scanI (grpsE s) s.profiles.length 0 := fun h1 => by rw [profilesE, h1]; rfl
 have hE2 : scanI (profE s) s.profiles.length 0 = (0, 0) → ∀ r : Int × Int, scanI (grpsE s) s.profiles.length 0 = r → r.2 ≠ 0 → secE s = r := fun h0 r h1 h2 => by
  rw [hE, hP h0, h1, if_pos h2]
 have hE3 : scanI (profE s) s.profiles.length 0 = (0, 0) → scanI (grpsE s) s.profiles.length 0 = (0, 0) → ∀ r : Int × Int, scanI (listE s) s.lists.length 0 = r → r.2 ≠ 0 → secE s = r := fun h0 h0' r h1 h2 => by
  rw [hE, hP h0, h0', if_neg (by simp), h1, if_pos h2]
 have hE4 : scanI (profE s) s.profiles.length 0 = (0, 0) → scanI (grpsE s) s.profiles.length 0 = (0, 0) → scanI (listE s) s.lists.length 0 = (0, 0) → ∀ r : Int × Int, scanI (objE s) s.objects.length 0 = r → secE s = if r.2 ≠ 0 then r else ((s.objects.length : Int), 0) := fun h0 h0' h0'' r h1 => by
  rw [hE, hP h0, h0', if_neg (by simp), h0'', if_neg (by simp), h1]
 clear hE hP
 refine loop_by ([2, 3, 5, 31, 32, 33, 34, 35, 36, 37, 38, 39, 40, 41, 42, 43, 44, 45, 46, 47, 48, 49, 50, 51, 52, 53, 54, 55, 56, 57, 58, 59, 60, 61, 62, 63, 64, 65, 66, 67, 68, 69, 70, 71, 72, 73, 74, 75, 76], [5]) (fun i : Nat => [(.s 4, .int .i64 (i : Int)), (.o 5, deadV i)]) (fun i => s.profiles.length - i) (fun i => i ≤ s.profiles.length ∧ scanI (profE s) s.profiles.length 0 = scanI (profE s) (s.profiles.length - i) i) 0 rfl ⟨Nat.zero_le _, rfl⟩ rfl ?_
 rintro c' st' hst i ⟨hi, hf⟩ ih
 simp only [go_sem, seval]
 refine ifI (fun hlt => ?_) fun hlt => ?_
 · have hw : i < 9223372036854775807 := by have := hs.profiles; omega
   have hit : ∀ v, profE s i = v → v ≠ 0 → (i : Int) = (secE s).1 ∧ v = (secE s).2 := fun v hv h0 => by
    rw [hE1 _ (hf.trans (scanI_hit hlt hv h0)) h0]; exact ⟨rfl, rfl⟩
   simp only [go_sem, seval, hlt]
   refine call_of (IsName_good _) ?_
   simp only [go_sem, seval]
   refine ifI (fun h1 => ?_) fun h1 => ?_
   · simp only [go_sem, seval]
     exact hit _ (by rw [profE_cases, if_pos (by simpa using h1)]) (by decide)
   have h1' : ¬ isNm (nth s.profiles i).name = false := by simpa using h1
   simp only [go_sem, seval]
   refine regD_of (decide (0 < i) && (Go.Op.bytesLess (nth s.profiles i).name.toList (nth s.profiles (i - 1)).name.toList || (nth s.profiles i).name.toList == (nth s.profiles (i - 1)).name.toList)) ?_ ?_
   · simp only [go_sem, seval]
     refine ifI (fun h2 => ?_) fun h2 => ?_
     · have h2' : 0 < i := by omega
       simp only [go_sem, seval, h2, hlt, wrap_pred (show 0 < i by omega) (show i ≤ 9223372036854775807 by omega), show i - 1 < s.profiles.length by omega]
       exact ⟨by decide +kernel, by simp [h2']⟩
     · have h2' : ¬ 0 < i := by omega
       simp only [go_sem, seval, h2]
       exact ⟨by decide +kernel, by simp [h2']⟩
   simp only [go_sem, seval]
   refine ifI (fun h2 => ?_) fun h2 => ?_
   · simp only [go_sem, seval]
     exact hit _ (by rw [profE_cases, if_neg h1', if_pos (by simpa using h2)]) (by decide)
   have h2' : ¬ (0 < i ∧ (Go.Op.bytesLess (nth s.profiles i).name.toList (nth s.profiles (i - 1)).name.toList || (nth s.profiles i).name.toList == (nth s.profiles (i - 1)).name.toList) = true) := by simpa using h2
   simp only [go_sem, seval]
   refine call_of (Within_good _ _ _) ?_
   simp only [go_sem, seval]
   refine ifI (fun h3 => ?_) fun h3 => ?_
   · simp only [go_sem, seval]
     exact hit _ (by rw [profE_cases, if_neg h1', if_neg h2', if_pos (by simpa using h3)]) (by decide)
   have h3' : ¬ inB (nth s.profiles i).special 0 63 = false := by simpa using h3
   simp only [go_sem, seval]
   refine ifI (fun h4 => ?_) fun h4 => ?_
   · simp only [go_sem, seval]
     exact hit _ (by rw [profE_cases, if_neg h1', if_neg h2', if_neg h3', if_pos h4]) (by decide)
   · simp only [go_sem, seval]
     refine ih (i + 1) _ ⟨by omega, hf.trans (scanI_skip hlt (by rw [profE_cases, if_neg h1', if_neg h2', if_neg h3', if_neg h4]))⟩ (by omega) ?_
     simp only [go_sem, seval, wrap_succ hw]
 subst hst
 rw [scanI_end (by omega)] at hf
 clear ih hE1
 replace hE2 := hE2 hf
 replace hE3 := hE3 hf
 replace hE4 := hE4 hf
 clear hf
 simp only [go_sem, seval]
 refine loop_by ([2, 3, 7, 8, 9, 77, 78, 79, 80, 81, 82, 83, 84, 85, 86, 87, 88, 89, 90, 91, 92, 93, 94, 95, 96, 97, 98, 99, 100, 101, 102, 103, 104, 105, 106, 107, 108, 109, 110, 111, 112, 113, 114, 115, 116, 117, 118, 119, 120, 121, 122, 123, 124, 125], []) (fun i : Nat => [(.s 6, .int .i64 (i : Int))]) (fun i => s.profiles.length - i) (fun i => i ≤ s.profiles.length ∧ scanI (grpsE s) s.profiles.length 0 = scanI (grpsE s) (s.profiles.length - i) i) 0 rfl ⟨Nat.zero_le _, rfl⟩ rfl ?_
 rintro c' st' hst i ⟨hi, hf⟩ ih
 simp only [go_sem, seval]
 refine ifI (fun hlt => ?_) fun hlt => ?_
 · have hw : i < 9223372036854775807 := by have := hs.profiles; omega
   have hgl : (nth s.profiles i).groups.length ≤ 1000000 := hs.groups _ (nth_mem hlt)
   have hG : grpsE s i = scan (grpE s (nth s.profiles i).groups) (nth s.profiles i).groups.length 0 := rfl
   simp only [go_sem, seval, hlt]
   refine loop_by ([2, 3, 9, 90, 91, 92, 93, 94, 95, 96, 97, 98, 99, 100, 101, 102, 103, 104, 105, 106, 107, 108, 109, 110, 111, 112, 113, 114, 115, 116, 117, 118, 119, 120, 121, 122, 123, 124, 125], []) (fun k : Nat => [(.s 8, .int .i64 (k : Int))]) (fun k => (nth s.profiles i).groups.length - k) (fun k => k ≤ (nth s.profiles i).groups.length ∧ scan (grpE s (nth s.profiles i).groups) (nth s.profiles i).groups.length 0 = scan (grpE s (nth s.profiles i).groups) ((nth s.profiles i).groups.length - k) k) 0 rfl ⟨Nat.zero_le _, rfl⟩ rfl ?_
   rintro c2 st2 hst2 k ⟨hk, hf2⟩ ih2
   simp only [go_sem, seval]
   refine ifI (fun hlt2 => ?_) fun hlt2 => ?_
   · have hw2 : k < 9223372036854775807 := by omega
     have hit : ∀ v, grpE s (nth s.profiles i).groups k = v → v ≠ 0 → (i : Int) = (secE s).1 ∧ v = (secE s).2 := fun v hv h0 => by
      rw [hE2 _ (hf.trans (scanI_hit hlt (hG.trans (hf2.trans (scan_hit hlt2 hv h0))) h0)) h0]; exact ⟨rfl, rfl⟩
     simp only [go_sem, seval, hlt2]
     obtain ⟨F, hFe⟩ : ∃ F, F = findIx (fun p => decide (p.name = (nth (nth s.profiles i).groups k))) s.profiles 0 := ⟨_, rfl⟩
     have hp : Ans Tryz.prog 65 [.agg (encSec s), .str (nth (nth s.profiles i).groups k)] (.int .i64 F) := by rw [hFe]; exact User_good s _ hs.profiles
     have hF := findIx_ge (fun p => decide (p.name = (nth (nth s.profiles i).groups k))) s.profiles 0
     have hg : grpE s (nth s.profiles i).groups k = grpF s (nth s.profiles i).groups k F := by rw [hFe]; rfl
     rw [← hFe] at hF
     rw [grpF_cases _ _ _ _ (by omega)] at hg
     refine callD_of (hp) ?_
     simp only [go_sem, seval]
     refine ⟨by decide +kernel, ifI (fun h1 => ?_) fun h1 => ?_⟩
     · simp only [go_sem, seval]
       exact hit _ (by rw [hg, if_pos h1]) (by decide)
     have h1' : 0 ≤ F := by omega
     have h1a : F < (s.profiles.length : Int) := by omega
     have h1b : F.toNat < s.profiles.length := by omega
     simp only [go_sem, seval, h1', h1a, h1b]
     refine ifI (fun h2 => ?_) fun h2 => ?_
     · simp only [go_sem, seval]
       exact hit _ (by rw [hg, if_neg h1, if_pos h2]) (by decide)
     simp only [go_sem, seval, hlt2]
     have hq := findIx_take (fun p => decide (p = nth (nth s.profiles i).groups k)) (nth s.profiles i).groups 0 k (self_found _ _ hlt2)
     rw [Nat.zero_add] at hq
     refine call_of (IndexOfString_good (nth s.profiles i).groups _ hgl) ?_
     simp only [go_sem, seval]
     refine ifI (fun h3 => ?_) fun h3 => ?_
     · simp only [go_sem, seval]
       exact hit _ (by rw [hg, if_neg h1, if_neg h2, if_pos (hq.1 h3)]) (by decide)
     · simp only [go_sem, seval]
       refine ih2 (k + 1) _ ⟨by omega, hf2.trans (scan_skip hlt2 (by rw [hg, if_neg h1, if_neg h2, if_neg (fun h => h3 (hq.2 h))]))⟩ (by omega) ?_
       simp only [go_sem, seval, wrap_succ hw2]
   · subst hst2
     rw [show (nth s.profiles i).groups.length - k = 0 by omega] at hf2
     simp only [go_sem, seval]
     refine ih (i + 1) _ ⟨by omega, hf.trans (scanI_skip hlt (hG.trans hf2))⟩ (by omega) ?_
     simp only [go_sem, seval, wrap_succ hw]
 subst hst
 rw [scanI_end (by omega)] at hf
 clear ih hE2
 replace hE3 := hE3 hf
 replace hE4 := hE4 hf
 clear hf
 simp only [go_sem, seval]
 refine loop_by ([2, 3, 11, 12, 126, 127, 128, 129, 130, 131, 132, 133, 134, 135, 136, 137, 138, 139, 140, 141, 142, 143, 144, 145, 146, 147, 148, 149, 150, 151, 152, 153, 154, 155, 156, 157, 158, 159, 160, 161, 162, 163, 164, 165, 166, 167, 168, 169, 170, 171, 172, 173, 174, 175, 176, 177, 178, 179], [11]) (fun i : Nat => [(.s 10, .int .i64 (i : Int)), (.o 11, deadV i)]) (fun i => s.lists.length - i) (fun i => i ≤ s.lists.length ∧ scanI (listE s) s.lists.length 0 = scanI (listE s) (s.lists.length - i) i) 0 rfl ⟨Nat.zero_le _, rfl⟩ rfl ?_
 rintro c' st' hst i ⟨hi, hf⟩ ih
 simp only [go_sem, seval]
 refine ifI (fun hlt => ?_) fun hlt => ?_
 · have hw : i < 9223372036854775807 := by have := hs.lists; omega
   have hit : ∀ v, listE s i = v → v ≠ 0 → (i : Int) = (secE s).1 ∧ v = (secE s).2 := fun v hv h0 => by
    rw [hE3 _ (hf.trans (scanI_hit hlt hv h0)) h0]; exact ⟨rfl, rfl⟩
   simp only [go_sem, seval, hlt]
   refine call_of (IsName_good _) ?_
   simp only [go_sem, seval]
   refine ifI (fun h1 => ?_) fun h1 => ?_
   · simp only [go_sem, seval]
     exact hit _ (by rw [listE_cases, if_pos (by simpa using h1)]) (by decide)
   have h1' : ¬ isNm (nth s.lists i).name = false := by simpa using h1
   simp only [go_sem, seval]
   refine regD_of (decide (0 < i) && (Go.Op.bytesLess (nth s.lists i).name.toList (nth s.lists (i - 1)).name.toList || (nth s.lists i).name.toList == (nth s.lists (i - 1)).name.toList)) ?_ ?_
   · simp only [go_sem, seval]
     refine ifI (fun h2 => ?_) fun h2 => ?_
     · have h2' : 0 < i := by omega
       simp only [go_sem, seval, h2, hlt, wrap_pred (show 0 < i by omega) (show i ≤ 9223372036854775807 by omega), show i - 1 < s.lists.length by omega]
       exact ⟨by decide +kernel, by simp [h2']⟩
     · have h2' : ¬ 0 < i := by omega
       simp only [go_sem, seval, h2]
       exact ⟨by decide +kernel, by simp [h2']⟩
   simp only [go_sem, seval]
   refine ifI (fun h2 => ?_) fun h2 => ?_
   · simp only [go_sem, seval]
     exact hit _ (by rw [listE_cases, if_neg h1', if_pos (by simpa using h2)]) (by decide)
   have h2' : ¬ (0 < i ∧ (Go.Op.bytesLess (nth s.lists i).name.toList (nth s.lists (i - 1)).name.toList || (nth s.lists i).name.toList == (nth s.lists (i - 1)).name.toList) = true) := by simpa using h2
   simp only [go_sem, seval]
   refine call_of (User_good s _ hs.profiles) ?_
   simp only [go_sem, seval]
   refine ifI (fun h3 => ?_) fun h3 => ?_
   · simp only [go_sem, seval]
     exact hit _ (by rw [listE_cases, if_neg h1', if_neg h2', if_pos h3]) (by decide)
   simp only [go_sem, seval]
   refine call_of (grantsErrR_good s _ hs.profiles (hs.lgrants _ (nth_mem hlt))) ?_
   simp only [go_sem, seval]
   refine ifI (fun h4 => ?_) fun h4 => ?_
   · simp only [go_sem, seval]
     exact hit _ (by rw [listE_cases, if_neg h1', if_neg h2', if_neg h3, if_pos h4]) h4
   simp only [go_sem, seval]
   refine call_of (IsAuthority_good _) ?_
   simp only [go_sem, seval]
   refine ifI (fun h5 => ?_) fun h5 => ?_
   · simp only [go_sem, seval]
     exact hit _ (by rw [listE_cases, if_neg h1', if_neg h2', if_neg h3, if_neg h4, if_pos (by simpa using h5)]) (by decide)
   · simp only [go_sem, seval]
     refine ih (i + 1) _ ⟨by omega, hf.trans (scanI_skip hlt (by rw [listE_cases, if_neg h1', if_neg h2', if_neg h3, if_neg h4, if_neg (by simpa using h5)]))⟩ (by omega) ?_
     simp only [go_sem, seval, wrap_succ hw]
 subst hst
 rw [scanI_end (by omega)] at hf
 clear ih hE3
 replace hE4 := hE4 hf
 clear hf
 simp only [go_sem, seval]
 refine loop_by ([2, 3, 14, 180, 181, 182, 183, 184, 185, 186, 187, 188, 189, 190, 191, 192, 193], []) (fun i : Nat => [(.s 13, .int .i64 (i : Int))]) (fun i => s.objects.length - i) (fun i => i ≤ s.objects.length ∧ scanI (objE s) s.objects.length 0 = scanI (objE s) (s.objects.length - i) i) 0 rfl ⟨Nat.zero_le _, rfl⟩ rfl ?_
 rintro c' st' hst i ⟨hi, hf⟩ ih
 simp only [go_sem, seval]
 refine ifI (fun hlt => ?_) fun hlt => ?_
 · have hw : i < 9223372036854775807 := by have := hs.objects; omega
   simp only [go_sem, seval, hlt]
   refine call_of (objectErrR_good s i hs hlt) ?_
   simp only [go_sem, seval]
   refine ifI (fun h1 => ?_) fun h1 => ?_
   · simp only [go_sem, seval]
     have h0 : objE s i ≠ 0 := by simpa using h1
     rw [hE4 _ (hf.trans (scanI_hit hlt rfl h0)), if_pos h0]; exact ⟨rfl, rfl⟩
   · simp only [go_sem, seval]
     refine ih (i + 1) _ ⟨by omega, hf.trans (scanI_skip hlt (by simpa using h1))⟩ (by omega) ?_
     simp only [go_sem, seval, wrap_succ hw]
 subst hst
 rw [scanI_end (by omega)] at hf
 simp only [go_sem, seval]
 rw [hE4 _ hf]; exact ⟨rfl, rfl⟩
set_option maxRecDepth 100000
theorem all_nth {α : Type} [Inhabited α] (l : List α) (p : α → Bool) : l.all p = true ↔ ∀ j, j < l.length → p (nth l j) = true := by
 rw [List.all_eq_true]
 constructor
 · intro h j hj; exact h _ (nth_mem hj)
 · intro h x hx
   obtain ⟨i, hi, rfl⟩ := List.getElem_of_mem hx
   have := h i hi
   rwa [nth_eq hi] at this
theorem all_not {α : Type} [Inhabited α] {l : List α} {p : α → Bool} {i : Nat} (h : i < l.length) (hp : p (nth l i) = false) : l.all p = false := by
 rw [Bool.eq_false_iff]; intro h2
 rw [(all_nth l p).1 h2 i h] at hp; cases hp
def small (s : ByteArray) : Bool := decide (s.size ≤ 100)
theorem small_of {s : ByteArray} (h : ¬ (100 : Int) < (s.size : Int)) : small s = true := by rw [small, decide_eq_true_eq]; omega
theorem small_not {s : ByteArray} (h : (100 : Int) < (s.size : Int)) : small s = false := by rw [small, decide_eq_false_iff_not]; omega
def fewNamesB (l : List ByteArray) : Bool := decide (l.length ≤ 12) && l.all small
def fewGrantsB (l : List Grant) : Bool := decide (l.length ≤ 12) && l.all fun g => small g.user
theorem few_end {α : Type} [Inhabited α] {l : List α} {p : α → Bool} {i : Nat} (hi : i ≤ l.length) (hp : ∀ j, j < i → p (nth l j) = true) (h : ¬ ((i : Int) < (l.length : Int)) ∨ ¬ ((i : Int) ≤ 12)) :
 decide ((l.length : Int) ≤ 12) = (decide (l.length ≤ 12) && l.all p) := by
 by_cases h2 : l.length ≤ 12
 · have : l.all p = true := (all_nth l p).2 fun j hj => hp j (by omega)
   rw [this, decide_eq_true h2, decide_eq_true (by omega)]; rfl
 · rw [decide_eq_false h2, decide_eq_false (by omega)]; rfl
set_option maxHeartbeats 4000000 in
theorem fewNames_good (l : List ByteArray) : Ans Tryz.prog 62 [.sl (l.map encStr)] (.bool (fewNamesB l)) := by
 refine good_run [(2, [2, 4, 5, 6, 7, 8, 9, 10, 11, 12, 13, 14, 15, 16, 17, 18, 19], [])] mixed Tryz.func62 rfl Tryz.ntmps62 (rs := [.tmp 2]) rfl (by decide +kernel) (by kernel_rfl) rfl ?_
 rw [startE_eq 23 _ _ _ rfl rfl]
 simp only [go_sem, seval]
 refine loop_by ([2, 4, 5, 6, 7, 8, 9, 10, 11, 12, 13, 14, 15, 16, 17, 18, 19], []) (fun i : Nat => [(.s 3, .int .i64 (i : Int))]) (fun i => 13 - i) (fun i => i ≤ l.length ∧ i ≤ 13 ∧ ∀ j, j < i → small (nth l j) = true) 0 rfl ⟨Nat.zero_le _, Nat.zero_le _, fun j hj => absurd hj (Nat.not_lt_zero _)⟩ rfl ?_
 rintro c' st' hst i ⟨hi, hi2, hp⟩ ih
 simp only [go_sem, seval]
 refine ifI (fun hlt => ?_) fun hlt => ?_
 · have hlt' : i < l.length := by omega
   simp only [go_sem, seval, hlt]
   refine ifI (fun h2 => ?_) fun h2 => ?_
   · simp only [go_sem, seval, hlt, hlt']
     refine ifI (fun h3 => ?_) fun h3 => ?_
     · simp only [go_sem, seval]
       rw [fewNamesB, all_not hlt' (small_not h3), Bool.and_false]
     · simp only [go_sem, seval]
       refine ih (i + 1) _ ⟨by omega, by omega, fun j hj => ?_⟩ (by omega) ?_
       · rcases Nat.lt_or_ge j i with h | h
         · exact hp j h
         · rw [show j = i by omega]; exact small_of h3
       · simp only [go_sem, seval, wrap_succ (show i < 9223372036854775807 by omega)]
   · subst hst
     simp only [go_sem, seval]
     exact few_end hi hp (.inr h2)
 · subst hst
   simp only [go_sem, seval, hlt]
   exact few_end hi hp (.inl (by omega))
set_option maxHeartbeats 4000000 in
theorem fewGrants_good (l : List Grant) : Ans Tryz.prog 63 [.sl (l.map encGrant)] (.bool (fewGrantsB l)) := by
 refine good_run [(2, [2, 4, 5, 6, 7, 8, 9, 10, 11, 12, 13, 14, 15, 16, 17, 18, 19, 20], [])] mixed Tryz.func63 rfl Tryz.ntmps63 (rs := [.tmp 2]) rfl (by decide +kernel) (by kernel_rfl) rfl ?_
 rw [startE_eq 24 _ _ _ rfl rfl]
 simp only [go_sem, seval]
 refine loop_by ([2, 4, 5, 6, 7, 8, 9, 10, 11, 12, 13, 14, 15, 16, 17, 18, 19, 20], []) (fun i : Nat => [(.s 3, .int .i64 (i : Int))]) (fun i => 13 - i) (fun i => i ≤ l.length ∧ i ≤ 13 ∧ ∀ j, j < i → small (nth l j).user = true) 0 rfl ⟨Nat.zero_le _, Nat.zero_le _, fun j hj => absurd hj (Nat.not_lt_zero _)⟩ rfl ?_
 rintro c' st' hst i ⟨hi, hi2, hp⟩ ih
 simp only [go_sem, seval]
 refine ifI (fun hlt => ?_) fun hlt => ?_
 · have hlt' : i < l.length := by omega
   simp only [go_sem, seval, hlt]
   refine ifI (fun h2 => ?_) fun h2 => ?_
   · simp only [go_sem, seval, hlt, hlt']
     refine ifI (fun h3 => ?_) fun h3 => ?_
     · simp only [go_sem, seval]
       rw [fewGrantsB, all_not hlt' (small_not h3), Bool.and_false]
     · simp only [go_sem, seval]
       refine ih (i + 1) _ ⟨by omega, by omega, fun j hj => ?_⟩ (by omega) ?_
       · rcases Nat.lt_or_ge j i with h | h
         · exact hp j h
         · rw [show j = i by omega]; exact small_of h3
       · simp only [go_sem, seval, wrap_succ (show i < 9223372036854775807 by omega)]
   · subst hst
     simp only [go_sem, seval]
     exact few_end hi hp (.inr h2)
 · subst hst
   simp only [go_sem, seval, hlt]
   exact few_end hi hp (.inl (by omega))
def fewRequestB (r : Req) : Bool := small r.user && fewNamesB r.adopters
def fewP (p : Prof) : Bool := small p.name && fewNamesB p.groups
def fewL (l : AList) : Bool := small l.name && small l.owner && fewGrantsB l.grants
def fewO (o : Secured) : Bool := small o.name.lib && small o.name.name && small o.owner && small o.list && fewGrantsB o.grants
def fewB (s : Sec) : Bool := decide (s.profiles.length ≤ 14 ∧ s.lists.length ≤ 8 ∧ s.objects.length ≤ 10) && (s.profiles.all fewP && (s.lists.all fewL && s.objects.all fewO))
theorem fewB_no {s : Sec} (h : ¬ (s.profiles.length ≤ 14 ∧ s.lists.length ≤ 8 ∧ s.objects.length ≤ 10)) : fewB s = false := by
 rw [fewB, decide_eq_false h, Bool.false_and]
theorem all_lt {α : Type} [Inhabited α] {l : List α} {p : α → Bool} {i : Nat} (hi : l.length ≤ i) (hp : ∀ j, j < i → p (nth l j) = true) : l.all p = true := (all_nth l p).2 fun j hj => hp j (by omega)
theorem step_all {α : Type} [Inhabited α] {l : List α} {p : α → Bool} {i : Nat} (hp : ∀ j, j < i → p (nth l j) = true) (h : p (nth l i) = true) : ∀ j, j < i + 1 → p (nth l j) = true := fun j hj => by
 rcases Nat.lt_or_ge j i with h1 | h1
 · exact hp j h1
 · rw [show j = i by omega]; exact h
theorem big_not {s : ByteArray} : decide ((100 : Int) < (s.size : Int)) = !small s := by
 rw [small, ← decide_not]; exact decide_eq_decide.2 (by omega)
set_option maxHeartbeats 8000000 in
theorem Few_good (s : Sec) : Ans Tryz.prog 31 [.agg (encSec s)] (.bool (fewB s)) := by
 refine good_run [(14, [2, 6, 83, 84, 85, 86, 87, 88, 89, 90, 91, 92, 93, 94, 95, 96, 97, 98, 99, 100, 101, 102, 103, 104, 105, 106, 107, 108, 109, 110, 111, 112, 113, 114, 115, 116, 117, 118, 119, 120, 121, 122, 123, 124], [6]), (9, [2, 48, 49, 50, 51, 52, 53, 54, 55, 56, 57, 58, 59, 60, 61, 62, 63, 64, 65, 66, 67, 68, 69, 70, 71, 72, 73, 74, 75, 76, 77, 78, 79, 80, 81, 82], []), (4, [2, 23, 24, 25, 26, 27, 28, 29, 30, 31, 32, 33, 34, 35, 36, 37, 38, 39, 40, 41, 42, 43, 44, 45, 46, 47], []), (1000012, [4, 16], [12, 13, 14, 15]), (1000018, [4, 22], [18, 19, 20, 21]), (1000039, [8, 47], [39, 40, 41, 42, 43, 44, 45, 46]), (1000064, [8, 72], [64, 65, 66, 67, 68, 69, 70, 71]), (1000074, [8, 82], [74, 75, 76, 77, 78, 79, 80, 81]), (1000101, [5, 106], [101, 102, 103, 104, 105]), (1000108, [4, 112], [108, 109, 110, 111]), (1000114, [4, 118], [114, 115, 116, 117]), (1000120, [4, 124], [120, 121, 122, 123])] mixed Tryz.func31 rfl Tryz.ntmps31 (rs := [.tmp 2]) rfl (by decide +kernel) (by kernel_rfl) rfl ?_
 rw [startE_eq 125 _ _ _ rfl rfl]
 simp only [go_sem, seval]
 refine join_of (decide ((14 : Int) < (s.profiles.length : Int)) || decide ((8 : Int) < (s.lists.length : Int))) ?_ ?_
 · simp (contextual := true) only [go_sem, ifP_eq, seval]
   try (split <;> simp_all)
 simp only [go_sem, seval]
 refine join_of ((decide ((14 : Int) < (s.profiles.length : Int)) || decide ((8 : Int) < (s.lists.length : Int))) || decide ((10 : Int) < (s.objects.length : Int))) ?_ ?_
 · simp (contextual := true) only [go_sem, ifP_eq, seval]
   try (split <;> simp_all)
 simp only [go_sem, seval]
 refine ifI (fun h => ?_) fun h => ?_
 · simp only [go_sem, seval, h]
   simp only [Bool.or_eq_true, decide_eq_true_eq] at h
   rw [fewB_no (by omega)]
 simp only [Bool.or_eq_true, decide_eq_true_eq] at h
 simp only [go_sem, seval, h]
 have hE : fewB s = (s.profiles.all fewP && (s.lists.all fewL && s.objects.all fewO)) := by rw [fewB, decide_eq_true (by omega), Bool.true_and]
 refine loop_by ([2, 23, 24, 25, 26, 27, 28, 29, 30, 31, 32, 33, 34, 35, 36, 37, 38, 39, 40, 41, 42, 43, 44, 45, 46, 47], []) (fun i : Nat => [(.s 3, .int .i64 (i : Int))]) (fun i => s.profiles.length - i) (fun i => i ≤ s.profiles.length ∧ ∀ j, j < i → fewP (nth s.profiles j) = true) 0 rfl ⟨Nat.zero_le _, fun j hj => absurd hj (Nat.not_lt_zero _)⟩ rfl ?_
 rintro c' st' hst i ⟨hi, hp⟩ ih
 simp only [go_sem, seval]
 refine ifI (fun hlt => ?_) fun hlt => ?_
 · simp only [go_sem, seval, hlt]
   refine join_of (decide ((100 : Int) < ((nth s.profiles i).name.size : Int)) || !fewNamesB (nth s.profiles i).groups) ?_ ?_
   · simp only [go_sem, seval]
     refine ifI (fun hj => ?_) fun hj => ?_
     · simp only [go_sem, seval, hj, hlt]
       refine call_of (fewNames_good _) ?_
       simp only [go_sem, seval]
       try simp [hj]
     · simp only [go_sem, seval, hj]
       try simp [hj]
   simp only [go_sem, seval]
   refine ifI (fun h2 => ?_) fun h2 => ?_
   · simp only [go_sem, seval]
     have h3 : fewP (nth s.profiles i) = false := by rw [big_not] at h2; rw [fewP]; revert h2; cases small (nth s.profiles i).name <;> cases fewNamesB (nth s.profiles i).groups <;> simp
     rw [hE, all_not hlt h3, Bool.false_and]
   · simp only [go_sem, seval]
     have h3 : fewP (nth s.profiles i) = true := by rw [big_not] at h2; rw [fewP]; revert h2; cases small (nth s.profiles i).name <;> cases fewNamesB (nth s.profiles i).groups <;> simp
     refine ih (i + 1) _ ⟨by omega, step_all hp h3⟩ (by omega) ?_
     simp only [go_sem, seval, wrap_succ (show i < 9223372036854775807 by omega)]
 subst hst
 rw [all_lt (by omega) hp, Bool.true_and] at hE
 clear ih hp
 simp only [go_sem, seval]
 refine loop_by ([2, 48, 49, 50, 51, 52, 53, 54, 55, 56, 57, 58, 59, 60, 61, 62, 63, 64, 65, 66, 67, 68, 69, 70, 71, 72, 73, 74, 75, 76, 77, 78, 79, 80, 81, 82], []) (fun i : Nat => [(.s 4, .int .i64 (i : Int))]) (fun i => s.lists.length - i) (fun i => i ≤ s.lists.length ∧ ∀ j, j < i → fewL (nth s.lists j) = true) 0 rfl ⟨Nat.zero_le _, fun j hj => absurd hj (Nat.not_lt_zero _)⟩ rfl ?_
 rintro c' st' hst i ⟨hi, hp⟩ ih
 simp only [go_sem, seval]
 refine ifI (fun hlt => ?_) fun hlt => ?_
 · simp only [go_sem, seval, hlt]
   refine join_of (decide ((100 : Int) < ((nth s.lists i).name.size : Int)) || decide ((100 : Int) < ((nth s.lists i).owner.size : Int))) ?_ ?_
   · simp only [go_sem, seval]
     refine ifI (fun hj => ?_) fun hj => ?_
     · simp only [go_sem, seval, hj, hlt]
       try simp [hj]
     · simp only [go_sem, seval, hj]
       try simp [hj]
   simp only [go_sem, seval]
   refine join_of ((decide ((100 : Int) < ((nth s.lists i).name.size : Int)) || decide ((100 : Int) < ((nth s.lists i).owner.size : Int))) || !fewGrantsB (nth s.lists i).grants) ?_ ?_
   · simp only [go_sem, seval]
     refine ifI (fun hj => ?_) fun hj => ?_
     · simp only [go_sem, seval, hj, hlt]
       refine call_of (fewGrants_good _) ?_
       simp only [go_sem, seval]
       try simp [hj]
     · simp only [go_sem, seval, hj]
       try simp [hj]
   simp only [go_sem, seval]
   refine ifI (fun h2 => ?_) fun h2 => ?_
   · simp only [go_sem, seval]
     have h3 : fewL (nth s.lists i) = false := by rw [big_not, big_not] at h2; rw [fewL]; revert h2; cases small (nth s.lists i).name <;> cases small (nth s.lists i).owner <;> cases fewGrantsB (nth s.lists i).grants <;> simp
     rw [hE, all_not hlt h3, Bool.false_and]
   · simp only [go_sem, seval]
     have h3 : fewL (nth s.lists i) = true := by rw [big_not, big_not] at h2; rw [fewL]; revert h2; cases small (nth s.lists i).name <;> cases small (nth s.lists i).owner <;> cases fewGrantsB (nth s.lists i).grants <;> simp
     refine ih (i + 1) _ ⟨by omega, step_all hp h3⟩ (by omega) ?_
     simp only [go_sem, seval, wrap_succ (show i < 9223372036854775807 by omega)]
 subst hst
 rw [all_lt (by omega) hp, Bool.true_and] at hE
 clear ih hp
 simp only [go_sem, seval]
 refine loop_by ([2, 6, 83, 84, 85, 86, 87, 88, 89, 90, 91, 92, 93, 94, 95, 96, 97, 98, 99, 100, 101, 102, 103, 104, 105, 106, 107, 108, 109, 110, 111, 112, 113, 114, 115, 116, 117, 118, 119, 120, 121, 122, 123, 124], [6]) (fun i : Nat => [(.s 5, .int .i64 (i : Int)), (.o 6, deadV i)]) (fun i => s.objects.length - i) (fun i => i ≤ s.objects.length ∧ ∀ j, j < i → fewO (nth s.objects j) = true) 0 rfl ⟨Nat.zero_le _, fun j hj => absurd hj (Nat.not_lt_zero _)⟩ rfl ?_
 rintro c' st' hst i ⟨hi, hp⟩ ih
 simp only [go_sem, seval]
 refine ifI (fun hlt => ?_) fun hlt => ?_
 · simp only [go_sem, seval, hlt]
   refine join_of (decide ((100 : Int) < ((nth s.objects i).name.lib.size : Int)) || decide ((100 : Int) < ((nth s.objects i).name.name.size : Int))) ?_ ?_
   · simp only [go_sem, seval]
     refine ifI (fun hj => ?_) fun hj => ?_
     · simp only [go_sem, seval, hj, hlt]
       try simp [hj]
     · simp only [go_sem, seval, hj]
       try simp [hj]
   simp only [go_sem, seval]
   refine join_of ((decide ((100 : Int) < ((nth s.objects i).name.lib.size : Int)) || decide ((100 : Int) < ((nth s.objects i).name.name.size : Int))) || decide ((100 : Int) < ((nth s.objects i).owner.size : Int))) ?_ ?_
   · simp only [go_sem, seval]
     refine ifI (fun hj => ?_) fun hj => ?_
     · simp only [go_sem, seval, hj, hlt]
       try simp [hj]
     · simp only [go_sem, seval, hj]
       try simp [hj]
   simp only [go_sem, seval]
   refine join_of (((decide ((100 : Int) < ((nth s.objects i).name.lib.size : Int)) || decide ((100 : Int) < ((nth s.objects i).name.name.size : Int))) || decide ((100 : Int) < ((nth s.objects i).owner.size : Int))) || decide ((100 : Int) < ((nth s.objects i).list.size : Int))) ?_ ?_
   · simp only [go_sem, seval]
     refine ifI (fun hj => ?_) fun hj => ?_
     · simp only [go_sem, seval, hj, hlt]
       try simp [hj]
     · simp only [go_sem, seval, hj]
       try simp [hj]
   simp only [go_sem, seval]
   refine join_of ((((decide ((100 : Int) < ((nth s.objects i).name.lib.size : Int)) || decide ((100 : Int) < ((nth s.objects i).name.name.size : Int))) || decide ((100 : Int) < ((nth s.objects i).owner.size : Int))) || decide ((100 : Int) < ((nth s.objects i).list.size : Int))) || !fewGrantsB (nth s.objects i).grants) ?_ ?_
   · simp only [go_sem, seval]
     refine ifI (fun hj => ?_) fun hj => ?_
     · simp only [go_sem, seval, hj, hlt]
       refine call_of (fewGrants_good _) ?_
       simp only [go_sem, seval]
       try simp [hj]
     · simp only [go_sem, seval, hj]
       try simp [hj]
   simp only [go_sem, seval]
   refine ifI (fun h2 => ?_) fun h2 => ?_
   · simp only [go_sem, seval]
     have h3 : fewO (nth s.objects i) = false := by
      rw [big_not, big_not, big_not, big_not] at h2; rw [fewO]; revert h2
      cases small (nth s.objects i).name.lib <;> cases small (nth s.objects i).name.name <;> cases small (nth s.objects i).owner <;> cases small (nth s.objects i).list <;> cases fewGrantsB (nth s.objects i).grants <;> simp
     rw [hE, all_not hlt h3]
   · simp only [go_sem, seval]
     have h3 : fewO (nth s.objects i) = true := by
      rw [big_not, big_not, big_not, big_not] at h2; rw [fewO]; revert h2
      cases small (nth s.objects i).name.lib <;> cases small (nth s.objects i).name.name <;> cases small (nth s.objects i).owner <;> cases small (nth s.objects i).list <;> cases fewGrantsB (nth s.objects i).grants <;> simp
     refine ih (i + 1) _ ⟨by omega, step_all hp h3⟩ (by omega) ?_
     simp only [go_sem, seval, wrap_succ (show i < 9223372036854775807 by omega)]
 subst hst
 simp only [go_sem, seval]
 rw [hE, all_lt (by omega) hp]
theorem few_fit {s : Sec} (h : fewB s = true) : Fit s := by
 rw [fewB, Bool.and_eq_true, Bool.and_eq_true, Bool.and_eq_true, decide_eq_true_eq] at h
 obtain ⟨⟨h1, h2, h3⟩, h4, h5, h6⟩ := h
 rw [List.all_eq_true] at h4 h5 h6
 refine ⟨by omega, by omega, by omega, fun p hp => ?_, fun p hp => ?_, fun p hp => ?_⟩
 · have := h4 p hp
   simp only [fewP, fewNamesB, Bool.and_eq_true, decide_eq_true_eq] at this; omega
 · have := h5 p hp
   simp only [fewL, fewGrantsB, Bool.and_eq_true, decide_eq_true_eq] at this; omega
 · have := h6 p hp
   simp only [fewO, fewGrantsB, Bool.and_eq_true, decide_eq_true_eq] at this; omega
end Go.Proofs.YtbhgehhmjpipiaaGreatDoor.C10
