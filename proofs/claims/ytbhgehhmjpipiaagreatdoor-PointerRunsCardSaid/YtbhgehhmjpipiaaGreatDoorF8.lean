/- Chapter 10: the parts of the check. -/
import Derived.Test.YtbhgehhmjpipiaaGreatDoorF5
import Derived.Test.YtbhgehhmjpipiaaGreatDoorAb18
set_option linter.unusedSimpArgs false
namespace Go.Proofs.YtbhgehhmjpipiaaGreatDoor.C10
open Go Go.Proofs Go.Proofs.YtbhgehhmjpipiaaGreatDoor.Ab
set_option maxRecDepth 100000
attribute [local congr] ite_ctx
theorem nth_mem {α : Type} [Inhabited α] {l : List α} {i : Nat} (h : i < l.length) : nth l i ∈ l := by
 rw [nth_eq h]; exact List.getElem_mem h
structure Fit (s : Sec) : Prop where
 profiles : s.profiles.length ≤ 1000000
 lists : s.lists.length ≤ 1000000
 objects : s.objects.length ≤ 1000000
 groups : ∀ p ∈ s.profiles, p.groups.length ≤ 1000000
 lgrants : ∀ l ∈ s.lists, l.grants.length ≤ 1000000
 ogrants : ∀ o ∈ s.objects, o.grants.length ≤ 1000000
def scanI (f : Nat → Int) : Nat → Nat → Int × Int
 | 0, _ => (0, 0)
 | k + 1, i => if f i = 0 then scanI f k (i + 1) else ((i : Int), f i)
theorem scanI_hit {f : Nat → Int} {n i : Nat} {v : Int} (h : i < n) (hv : f i = v) (h0 : v ≠ 0) : scanI f (n - i) i = ((i : Int), v) := by
 rw [show n - i = (n - (i + 1)) + 1 by omega, scanI, hv, if_neg h0]
theorem scanI_skip {f : Nat → Int} {n i : Nat} (h : i < n) (hv : f i = 0) : scanI f (n - i) i = scanI f (n - (i + 1)) (i + 1) := by
 rw [show n - i = (n - (i + 1)) + 1 by omega, scanI, if_pos hv]
def listE (s : Sec) (i : Nat) : Int :=
 firstE [if (!isNm (nth s.lists i).name) = true then 7 else 0, if (decide (0 < i) && !sLt (nth s.lists (i - 1)).name (nth s.lists i).name) = true then 14 else 0,
  if findIx (fun p => decide (p.name = (nth s.lists i).owner)) s.profiles 0 < 0 then 11 else 0, grantsE s (nth s.lists i).grants, if (!inB (nth s.lists i).pub 0 1023) = true then 3 else 0]
theorem listE_def (s : Sec) (i : Nat) : listE s i =
 firstE [if (!isNm (nth s.lists i).name) = true then 7 else 0, if (decide (0 < i) && !sLt (nth s.lists (i - 1)).name (nth s.lists i).name) = true then 14 else 0,
  if findIx (fun p => decide (p.name = (nth s.lists i).owner)) s.profiles 0 < 0 then 11 else 0, grantsE s (nth s.lists i).grants, if (!inB (nth s.lists i).pub 0 1023) = true then 3 else 0] := rfl
set_option maxHeartbeats 4000000 in
theorem listsErr_good (s : Sec) (hs : Fit s) : Ans Tryz.prog 147 [.agg (encSec s)] (.tup [.int .i64 (scanI (listE s) s.lists.length 0).1, .int .i64 (scanI (listE s) s.lists.length 0).2]) := by
 refine good_run [(2, [2, 3, 4, 5, 6, 11, 12, 13, 14, 15, 16, 17, 18, 19, 20, 21, 22, 23, 24, 25, 26, 27, 28, 29, 30, 31, 32, 33, 34, 35, 36, 37, 38, 39, 40, 41, 42, 43, 44, 45, 46, 47, 48, 49, 50, 51, 52, 53, 54, 55, 56, 57], [5, 51])] mixed Tryz.func147 rfl Tryz.ntmps147 (rs := [.tmp 2, .tmp 3]) rfl (by decide +kernel) (by kernel_rfl) rfl ?_
 rw [startE_eq 58 _ _ _ rfl rfl]
 simp only [go_sem, seval]
 refine loop_by ([2, 3, 4, 5, 6, 11, 12, 13, 14, 15, 16, 17, 18, 19, 20, 21, 22, 23, 24, 25, 26, 27, 28, 29, 30, 31, 32, 33, 34, 35, 36, 37, 38, 39, 40, 41, 42, 43, 44, 45, 46, 47, 48, 49, 50, 51, 52, 53, 54, 55, 56, 57], [5, 51]) (fun i : Nat => [(.s 10, .int .i64 (i : Int)), (.o 5, deadV i), (.o 51, deadV i)]) (fun i => s.lists.length - i) (fun i => i ≤ s.lists.length ∧ scanI (listE s) s.lists.length 0 = scanI (listE s) (s.lists.length - i) i) 0 rfl ⟨Nat.zero_le _, rfl⟩ rfl ?_
 rintro c' st' hst i ⟨hi, hf⟩ ih
 simp only [go_sem, seval]
 refine ifI (fun hlt => ?_) fun hlt => ?_
 · have hw : i < 9223372036854775807 := by have := hs.lists; omega
   simp only [go_sem, seval, hlt]
   refine callD_of (isName10_good _) ?_
   simp only [go_sem, seval]
   refine callD_of (cond_good _ _) ?_
   simp only [go_sem, seval]
   refine ifI (fun h1 => ?_) fun h1 => ?_
   · simp only [go_sem, seval, h1, wrap_pred (show 0 < i by omega) (show i ≤ 9223372036854775807 by omega), show i - 1 < s.lists.length by omega]
     refine callD_of (cond_good _ _) ?_
     simp only [go_sem, seval, h1]
     refine callD_of (profile_good s _ hs.profiles) ?_
     simp only [go_sem, seval]
     refine callD_of (cond_good _ _) ?_
     simp only [go_sem, seval]
     refine callD_of (grantsErr_good s _ hs.profiles (hs.lgrants _ (nth_mem hlt))) ?_
     simp only [go_sem, seval]
     refine callD_of (isAuthority_good _) ?_
     simp only [go_sem, seval]
     refine callD_of (cond_good _ _) ?_
     simp only [go_sem, seval]
     refine callD_of (first5_good _ _ _ _ _) ?_
     simp only [go_sem, seval, h1]
     have hg := listE_def s i
     rw [decide_eq_true (show 0 < i by omega), Bool.true_and, sLt] at hg
     refine ⟨by decide +kernel, ifI (fun h2 => ?_) fun h2 => ?_⟩
     · simp only [go_sem, seval]
       rw [hf.trans (scanI_hit hlt hg h2)]; exact ⟨rfl, rfl⟩
     · simp only [go_sem, seval]
       refine ih (i + 1) _ ⟨by omega, hf.trans (scanI_skip hlt (hg.trans (Classical.not_not.1 h2)))⟩ (by omega) ?_
       simp only [go_sem, seval, wrap_succ hw]
   · simp only [go_sem, seval, h1]
     refine callD_of (cond_good _ _) ?_
     simp only [go_sem, seval, h1]
     refine callD_of (profile_good s _ hs.profiles) ?_
     simp only [go_sem, seval]
     refine callD_of (cond_good _ _) ?_
     simp only [go_sem, seval]
     refine callD_of (grantsErr_good s _ hs.profiles (hs.lgrants _ (nth_mem hlt))) ?_
     simp only [go_sem, seval]
     refine callD_of (isAuthority_good _) ?_
     simp only [go_sem, seval]
     refine callD_of (cond_good _ _) ?_
     simp only [go_sem, seval]
     refine callD_of (first5_good _ _ _ _ _) ?_
     simp only [go_sem, seval, h1]
     have hg := listE_def s i
     rw [decide_eq_false (show ¬ 0 < i by omega), Bool.false_and, if_neg (by simp : ¬ false = true)] at hg
     refine ⟨by decide +kernel, ifI (fun h2 => ?_) fun h2 => ?_⟩
     · simp only [go_sem, seval]
       rw [hf.trans (scanI_hit hlt hg h2)]; exact ⟨rfl, rfl⟩
     · simp only [go_sem, seval]
       refine ih (i + 1) _ ⟨by omega, hf.trans (scanI_skip hlt (hg.trans (Classical.not_not.1 h2)))⟩ (by omega) ?_
       simp only [go_sem, seval, wrap_succ hw]
 · subst hst
   simp only [go_sem, seval]
   rw [hf, show s.lists.length - i = 0 by omega]; exact ⟨rfl, rfl⟩
def objE (s : Sec) (i : Nat) : Int :=
 firstE [errName (nth s.objects i).name, if (!(decide (i = 0) || nLt (nth s.objects (i - 1)).name (nth s.objects i).name)) = true then 14 else 0,
  if findIx (fun p => decide (p.name = (nth s.objects i).owner)) s.profiles 0 < 0 then 11 else 0, grantsE s (nth s.objects i).grants,
  if (decide (¬ (nth s.objects i).list = ⟨#[]⟩) && decide (findIx (fun p => decide (p.name = (nth s.objects i).list)) s.lists 0 < 0)) = true then 11 else 0,
  if ((nth s.objects i).byList && (decide ((nth s.objects i).list = ⟨#[]⟩) || decide (¬ (nth s.objects i).pub = 0))) = true then 5 else 0,
  if (!inB (nth s.objects i).pub 0 1023) = true then 3 else 0]
theorem objE_def (s : Sec) (i : Nat) : objE s i =
 firstE [errName (nth s.objects i).name, if (!(decide (i = 0) || nLt (nth s.objects (i - 1)).name (nth s.objects i).name)) = true then 14 else 0,
  if findIx (fun p => decide (p.name = (nth s.objects i).owner)) s.profiles 0 < 0 then 11 else 0, grantsE s (nth s.objects i).grants,
  if (decide (¬ (nth s.objects i).list = ⟨#[]⟩) && decide (findIx (fun p => decide (p.name = (nth s.objects i).list)) s.lists 0 < 0)) = true then 11 else 0,
  if ((nth s.objects i).byList && (decide ((nth s.objects i).list = ⟨#[]⟩) || decide (¬ (nth s.objects i).pub = 0))) = true then 5 else 0,
  if (!inB (nth s.objects i).pub 0 1023) = true then 3 else 0] := rfl
set_option maxHeartbeats 4000000 in
theorem objectsErr_good (s : Sec) (hs : Fit s) : Ans Tryz.prog 148 [.agg (encSec s)] (.tup [.int .i64 (scanI (objE s) s.objects.length 0).1, .int .i64 (scanI (objE s) s.objects.length 0).2]) := by
 refine good_run [(2, [2, 3, 4, 5, 6, 7, 8, 13, 14, 15, 16, 17, 18, 19, 20, 21, 22, 23, 24, 25, 26, 27, 28, 29, 30, 31, 32, 33, 34, 35, 36, 37, 38, 39, 40, 41, 42, 43, 44, 45, 46, 47, 48, 49, 50, 51, 52, 53, 54, 55, 56, 57, 58, 59, 60, 61, 62, 63, 64, 65, 66, 67, 68, 69, 70, 71, 72, 73, 74, 75, 76, 77, 78, 79, 80, 81, 82, 83, 84, 85], [5, 79]), (1000036, [8, 44], [36, 37, 38, 39, 40, 41, 42, 43]), (2000004, [0, 6], [17, 18, 19, 20, 21, 22, 23, 24, 25, 26, 27, 28, 29, 30, 31, 32])] mixed Tryz.func148 rfl Tryz.ntmps148 (rs := [.tmp 2, .tmp 3]) rfl (by decide +kernel) (by kernel_rfl) rfl ?_
 rw [startE_eq 86 _ _ _ rfl rfl]
 simp only [go_sem, seval]
 refine loop_by ([2, 3, 4, 5, 6, 7, 8, 13, 14, 15, 16, 17, 18, 19, 20, 21, 22, 23, 24, 25, 26, 27, 28, 29, 30, 31, 32, 33, 34, 35, 36, 37, 38, 39, 40, 41, 42, 43, 44, 45, 46, 47, 48, 49, 50, 51, 52, 53, 54, 55, 56, 57, 58, 59, 60, 61, 62, 63, 64, 65, 66, 67, 68, 69, 70, 71, 72, 73, 74, 75, 76, 77, 78, 79, 80, 81, 82, 83, 84, 85], [5, 79]) (fun i : Nat => [(.s 12, .int .i64 (i : Int)), (.o 5, deadV i), (.o 79, deadV i)]) (fun i => s.objects.length - i) (fun i => i ≤ s.objects.length ∧ scanI (objE s) s.objects.length 0 = scanI (objE s) (s.objects.length - i) i) 0 rfl ⟨Nat.zero_le _, rfl⟩ rfl ?_
 rintro c' st' hst i ⟨hi, hf⟩ ih
 simp only [go_sem, seval]
 refine ifI (fun hlt => ?_) fun hlt => ?_
 · have hw : i < 9223372036854775807 := by have := hs.objects; omega
   simp only [go_sem, seval, hlt]
   refine regD_of (decide (i = 0) || nLt (nth s.objects (i - 1)).name (nth s.objects i).name) ?_ ?_
   · simp only [go_sem, seval]
     refine ifI (fun h1 => ?_) fun h1 => ?_
     · simp only [decide_eq_false_iff_not] at h1
       simp only [go_sem, seval, h1, hlt, wrap_pred (show 0 < i by omega) (show i ≤ 9223372036854775807 by omega), show i - 1 < s.objects.length by omega]
       refine callD_of (compare_good (nth s.objects (i - 1)).name (nth s.objects i).name) ?_
       simp only [go_sem, seval, h1]
       refine ⟨by decide +kernel, ?_⟩
       rw [cmpN_lt, decide_eq_false (show ¬ i = 0 by omega), Bool.false_or]
     · simp only [decide_eq_false_iff_not, Classical.not_not] at h1
       simp only [go_sem, seval, h1]
       exact ⟨by decide +kernel, by rw [decide_eq_true (show i = 0 by omega)]; rfl⟩
   · simp only [go_sem, seval]
     refine join_of ((nth s.objects i).byList && (decide ((nth s.objects i).list = ⟨#[]⟩) || decide (¬ (nth s.objects i).pub = 0))) ?_ ?_
     · simp only [go_sem, seval]
       refine ifI (fun h1 => ?_) fun h1 => ?_
       · simp only [go_sem, seval, h1]
         refine ifI (fun h2 => ?_) fun h2 => ?_
         · simp only [go_sem, seval, h1, h2]
         · simp only [Bool.not_eq_false] at h2
           simp only [go_sem, seval, h1, h2]
       · simp only [Bool.not_eq_true] at h1
         simp only [go_sem, seval, h1]
     · simp only [go_sem, seval]
       refine callD_of (CheckName_good (nth s.objects i).name) ?_
       simp only [go_sem, seval]
       refine callD_of (cond_good _ _) ?_
       simp only [go_sem, seval]
       refine callD_of (profile_good s _ hs.profiles) ?_
       simp only [go_sem, seval]
       refine callD_of (cond_good _ _) ?_
       simp only [go_sem, seval]
       refine callD_of (grantsErr_good s _ hs.profiles (hs.ogrants _ (nth_mem hlt))) ?_
       simp only [go_sem, seval]
       refine ifI (fun h1 => ?_) fun h1 => ?_
       · simp only [go_sem, seval, h1]
         refine callD_of (list_good s _ hs.lists) ?_
         simp only [go_sem, seval, h1]
         refine callD_of (cond_good _ _) ?_
         simp only [go_sem, seval, h1]
         refine callD_of (cond_good _ _) ?_
         simp only [go_sem, seval, h1]
         refine callD_of (isAuthority_good _) ?_
         simp only [go_sem, seval, h1]
         refine callD_of (cond_good _ _) ?_
         simp only [go_sem, seval, h1]
         refine callD_of (first7_good _ _ _ _ _ _ _) ?_
         simp only [go_sem, seval, h1]
         refine ⟨by decide +kernel, ?_⟩
         have hg := objE_def s i
         simp only [h1, decide_true, decide_false, not_true_eq_false, not_false_eq_true, Bool.true_and, Bool.false_or, Bool.true_or, Bool.and_true, Bool.false_and, decide_eq_true_eq, Bool.false_eq_true, if_false] at hg
         refine ifI (fun h2 => ?_) fun h2 => ?_
         · simp only [go_sem, seval]
           rw [hf.trans (scanI_hit hlt hg h2)]; exact ⟨rfl, rfl⟩
         · simp only [go_sem, seval]
           refine ih (i + 1) _ ⟨by omega, hf.trans (scanI_skip hlt (hg.trans (Classical.not_not.1 h2)))⟩ (by omega) ?_
           simp only [go_sem, seval, wrap_succ hw]
       · simp only [go_sem, seval, h1]
         refine callD_of (cond_good _ _) ?_
         simp only [go_sem, seval, h1]
         refine callD_of (cond_good _ _) ?_
         simp only [go_sem, seval, h1]
         refine callD_of (isAuthority_good _) ?_
         simp only [go_sem, seval, h1]
         refine callD_of (cond_good _ _) ?_
         simp only [go_sem, seval, h1]
         refine callD_of (first7_good _ _ _ _ _ _ _) ?_
         simp only [go_sem, seval, h1]
         refine ⟨by decide +kernel, ?_⟩
         have hg := objE_def s i
         simp only [h1, decide_true, decide_false, not_true_eq_false, not_false_eq_true, Bool.true_and, Bool.false_or, Bool.true_or, Bool.and_true, Bool.false_and, decide_eq_true_eq, Bool.false_eq_true, if_false] at hg
         refine ifI (fun h2 => ?_) fun h2 => ?_
         · simp only [go_sem, seval]
           rw [hf.trans (scanI_hit hlt hg h2)]; exact ⟨rfl, rfl⟩
         · simp only [go_sem, seval]
           refine ih (i + 1) _ ⟨by omega, hf.trans (scanI_skip hlt (hg.trans (Classical.not_not.1 h2)))⟩ (by omega) ?_
           simp only [go_sem, seval, wrap_succ hw]
 · subst hst
   simp only [go_sem, seval]
   rw [hf, show s.objects.length - i = 0 by omega]; exact ⟨rfl, rfl⟩
set_option maxRecDepth 100000
def profE (s : Sec) (i : Nat) : Int :=
 firstE [if (!isNm (nth s.profiles i).name) = true then 7 else 0, if (decide (0 < i) && !sLt (nth s.profiles (i - 1)).name (nth s.profiles i).name) = true then 14 else 0,
  if (!inB (nth s.profiles i).special 0 63) = true then 3 else 0, if (4 : Int) < ((nth s.profiles i).groups.length : Int) then 2 else 0]
theorem profE_def (s : Sec) (i : Nat) : profE s i =
 firstE [if (!isNm (nth s.profiles i).name) = true then 7 else 0, if (decide (0 < i) && !sLt (nth s.profiles (i - 1)).name (nth s.profiles i).name) = true then 14 else 0,
  if (!inB (nth s.profiles i).special 0 63) = true then 3 else 0, if (4 : Int) < ((nth s.profiles i).groups.length : Int) then 2 else 0] := rfl
def profIx (s : Sec) (n : ByteArray) : Int := findIx (fun p => decide (p.name = n)) s.profiles 0
def grpF (s : Sec) (l : List ByteArray) (k : Nat) (F : Int) : Int :=
 firstE [if F < 0 then 11 else 0, if (decide (0 ≤ F) && decide ((0 : Int) < ((nth s.profiles F.toNat).groups.length : Int))) = true then 15 else 0,
  if ((l.take k).any fun p => decide (p = nth l k)) = true then 13 else 0]
def grpE (s : Sec) (l : List ByteArray) (k : Nat) : Int := grpF s l k (profIx s (nth l k))
def grpsE (s : Sec) (i : Nat) : Int := scan (grpE s (nth s.profiles i).groups) (nth s.profiles i).groups.length 0
def profilesE (s : Sec) : Int × Int := if (scanI (profE s) s.profiles.length 0).2 ≠ 0 then scanI (profE s) s.profiles.length 0 else scanI (grpsE s) s.profiles.length 0
theorem scanI_end {f : Nat → Int} {n i : Nat} (h : n ≤ i) : scanI f (n - i) i = (0, 0) := by
 rw [show n - i = 0 by omega]; rfl
set_option maxHeartbeats 4000000 in
theorem profilesErr_good (s : Sec) (hs : Fit s) : Ans Tryz.prog 146 [.agg (encSec s)] (.tup [.int .i64 (profilesE s).1, .int .i64 (profilesE s).2]) := by
 refine good_run [(12, [2, 3, 9, 10, 11, 12, 71, 72, 73, 74, 75, 76, 77, 78, 79, 80, 81, 82, 83, 84, 85, 86, 87, 88, 89, 90, 91, 92, 93, 94, 95, 96, 97, 98, 99, 100, 101, 102, 103, 104, 105, 106, 107, 108], [102]), (9, [2, 3, 7, 8, 9, 10, 11, 12, 63, 64, 65, 66, 67, 68, 69, 70, 71, 72, 73, 74, 75, 76, 77, 78, 79, 80, 81, 82, 83, 84, 85, 86, 87, 88, 89, 90, 91, 92, 93, 94, 95, 96, 97, 98, 99, 100, 101, 102, 103, 104, 105, 106, 107, 108, 109], [8, 102]), (2, [2, 3, 4, 5, 6, 17, 18, 19, 20, 21, 22, 23, 24, 25, 26, 27, 28, 29, 30, 31, 32, 33, 34, 35, 36, 37, 38, 39, 40, 41, 42, 43, 44, 45, 46, 47, 48, 49, 50, 51, 52, 53, 54, 55, 56, 57, 58], [5, 52])] mixed Tryz.func146 rfl Tryz.ntmps146 (rs := [.tmp 2, .tmp 3]) rfl (by decide +kernel) (by kernel_rfl) rfl ?_
 rw [startE_eq 110 _ _ _ rfl rfl]
 simp only [go_sem, seval]
 refine loop_by ([2, 3, 4, 5, 6, 17, 18, 19, 20, 21, 22, 23, 24, 25, 26, 27, 28, 29, 30, 31, 32, 33, 34, 35, 36, 37, 38, 39, 40, 41, 42, 43, 44, 45, 46, 47, 48, 49, 50, 51, 52, 53, 54, 55, 56, 57, 58], [5, 52]) (fun i : Nat => [(.s 16, .int .i64 (i : Int)), (.o 5, deadV i), (.o 52, deadV i)]) (fun i => s.profiles.length - i) (fun i => i ≤ s.profiles.length ∧ scanI (profE s) s.profiles.length 0 = scanI (profE s) (s.profiles.length - i) i) 0 rfl ⟨Nat.zero_le _, rfl⟩ rfl ?_
 rintro c' st' hst i ⟨hi, hf⟩ ih
 simp only [go_sem, seval]
 refine ifI (fun hlt => ?_) fun hlt => ?_
 · have hw : i < 9223372036854775807 := by have := hs.profiles; omega
   simp only [go_sem, seval, hlt]
   refine callD_of (isName10_good _) ?_
   simp only [go_sem, seval]
   refine callD_of (cond_good _ _) ?_
   simp only [go_sem, seval]
   refine ifI (fun h1 => ?_) fun h1 => ?_
   · simp only [go_sem, seval, h1, wrap_pred (show 0 < i by omega) (show i ≤ 9223372036854775807 by omega), show i - 1 < s.profiles.length by omega]
     refine callD_of (cond_good _ _) ?_
     simp only [go_sem, seval, h1]
     refine callD_of (in_good _ _ _) ?_
     simp only [go_sem, seval, h1]
     refine callD_of (cond_good _ _) ?_
     simp only [go_sem, seval, h1]
     refine callD_of (cond_good _ _) ?_
     simp only [go_sem, seval, h1]
     refine callD_of (first4_good _ _ _ _) ?_
     simp only [go_sem, seval, h1]
     have hg := profE_def s i
     rw [decide_eq_true (show 0 < i by omega), Bool.true_and, sLt] at hg
     refine ⟨by decide +kernel, ifI (fun h2 => ?_) fun h2 => ?_⟩
     · simp only [go_sem, seval]
       have hr := hf.trans (scanI_hit hlt hg h2)
       rw [profilesE, hr, if_pos h2]; exact ⟨rfl, rfl⟩
     · simp only [go_sem, seval]
       refine ih (i + 1) _ ⟨by omega, hf.trans (scanI_skip hlt (hg.trans (Classical.not_not.1 h2)))⟩ (by omega) ?_
       simp only [go_sem, seval, wrap_succ hw]
   · simp only [go_sem, seval, h1]
     refine callD_of (cond_good _ _) ?_
     simp only [go_sem, seval, h1]
     refine callD_of (in_good _ _ _) ?_
     simp only [go_sem, seval, h1]
     refine callD_of (cond_good _ _) ?_
     simp only [go_sem, seval, h1]
     refine callD_of (cond_good _ _) ?_
     simp only [go_sem, seval, h1]
     refine callD_of (first4_good _ _ _ _) ?_
     simp only [go_sem, seval, h1]
     have hg := profE_def s i
     rw [decide_eq_false (show ¬ 0 < i by omega), Bool.false_and, if_neg (by simp : ¬ false = true)] at hg
     refine ⟨by decide +kernel, ifI (fun h2 => ?_) fun h2 => ?_⟩
     · simp only [go_sem, seval]
       have hr := hf.trans (scanI_hit hlt hg h2)
       rw [profilesE, hr, if_pos h2]; exact ⟨rfl, rfl⟩
     · simp only [go_sem, seval]
       refine ih (i + 1) _ ⟨by omega, hf.trans (scanI_skip hlt (hg.trans (Classical.not_not.1 h2)))⟩ (by omega) ?_
       simp only [go_sem, seval, wrap_succ hw]
 · subst hst
   rw [scanI_end (by omega)] at hf
   have hP : profilesE s = scanI (grpsE s) s.profiles.length 0 := by rw [profilesE, hf]; rfl
   clear hf ih
   simp only [go_sem, seval]
   refine loop_by ([2, 3, 7, 8, 9, 10, 11, 12, 63, 64, 65, 66, 67, 68, 69, 70, 71, 72, 73, 74, 75, 76, 77, 78, 79, 80, 81, 82, 83, 84, 85, 86, 87, 88, 89, 90, 91, 92, 93, 94, 95, 96, 97, 98, 99, 100, 101, 102, 103, 104, 105, 106, 107, 108, 109], [8, 102]) (fun x : Nat × Nat => [(.s 62, .int .i64 (x.1 : Int)), (.o 8, deadV x.1), (.o 102, deadV x.2)]) (fun x => s.profiles.length - x.1) (fun x => x.1 ≤ s.profiles.length ∧ scanI (grpsE s) s.profiles.length 0 = scanI (grpsE s) (s.profiles.length - x.1) x.1) (0, 0) rfl ⟨Nat.zero_le _, rfl⟩ rfl ?_
   rintro c' st' hst ⟨i, m⟩ ⟨hi, hf⟩ ih
   simp only at hi hf
   simp only [go_sem, seval]
   refine ifI (fun hlt => ?_) fun hlt => ?_
   · have hw : i < 9223372036854775807 := by have := hs.profiles; omega
     have hgl : (nth s.profiles i).groups.length ≤ 1000000 := hs.groups _ (nth_mem hlt)
     have hG : grpsE s i = scan (grpE s (nth s.profiles i).groups) (nth s.profiles i).groups.length 0 := rfl
     simp only [go_sem, seval, hlt]
     refine loop_by ([2, 3, 9, 10, 11, 12, 71, 72, 73, 74, 75, 76, 77, 78, 79, 80, 81, 82, 83, 84, 85, 86, 87, 88, 89, 90, 91, 92, 93, 94, 95, 96, 97, 98, 99, 100, 101, 102, 103, 104, 105, 106, 107, 108], [102]) (fun x : Nat × Nat => [(.s 70, .int .i64 (x.1 : Int)), (.o 102, deadV x.2)]) (fun x => (nth s.profiles i).groups.length - x.1) (fun x => x.1 ≤ (nth s.profiles i).groups.length ∧ scan (grpE s (nth s.profiles i).groups) (nth s.profiles i).groups.length 0 = scan (grpE s (nth s.profiles i).groups) ((nth s.profiles i).groups.length - x.1) x.1) (0, m) rfl ⟨Nat.zero_le _, rfl⟩ rfl ?_
     rintro c2 st2 hst2 ⟨k, m2⟩ ⟨hk, hf2⟩ ih2
     simp only at hk hf2
     simp only [go_sem, seval]
     refine ifI (fun hlt2 => ?_) fun hlt2 => ?_
     · have hw2 : k < 9223372036854775807 := by omega
       simp only [go_sem, seval, hlt2]
       obtain ⟨F, hFe⟩ : ∃ F, F = findIx (fun p => decide (p.name = (nth (nth s.profiles i).groups k))) s.profiles 0 := ⟨_, rfl⟩
       have hp : Ans Tryz.prog 175 [.agg (encSec s), .str (nth (nth s.profiles i).groups k)] (.int .i64 F) := by rw [hFe]; exact profile_good s _ hs.profiles
       have hF := findIx_ge (fun p => decide (p.name = (nth (nth s.profiles i).groups k))) s.profiles 0
       have hg : grpE s (nth s.profiles i).groups k = grpF s (nth s.profiles i).groups k F := by rw [hFe]; rfl
       rw [grpF] at hg
       rw [← hFe] at hF
       refine call_of (hp) ?_
       simp only [go_sem, seval]
       refine callD_of (cond_good _ _) ?_
       simp only [go_sem, seval]
       refine ifI (fun h1 => ?_) fun h1 => ?_
       · have h1' : ¬ F < 0 := by omega
         have h1a : F < (s.profiles.length : Int) := by omega
         have h1b : F.toNat < s.profiles.length := by omega
         simp only [go_sem, seval, h1, h1', h1a, h1b]
         refine callD_of (cond_good _ _) ?_
         simp only [go_sem, seval, h1, h1', h1a, h1b, show k ≤ (nth s.profiles i).groups.length by omega]
         refine callD_of (ContainsS_good ((nth s.profiles i).groups.take k) _ (by rw [List.length_take]; omega)) ?_
         simp only [go_sem, seval, h1, h1', h1a, h1b]
         refine callD_of (cond_good _ _) ?_
         simp only [go_sem, seval, h1, h1', h1a, h1b]
         refine callD_of (first3_good _ _ _) ?_
         simp only [go_sem, seval, h1, h1', h1a, h1b]
         rw [decide_eq_true h1, Bool.true_and, if_neg h1'] at hg
         simp only [decide_eq_true_eq] at hg
         refine ⟨by decide +kernel, ifI (fun h2 => ?_) fun h2 => ?_⟩
         · simp only [go_sem, seval]
           rw [hP, hf.trans (scanI_hit hlt (hG.trans (hf2.trans (scan_hit hlt2 hg h2))) h2)]; exact ⟨rfl, rfl⟩
         · simp only [go_sem, seval]
           refine ih2 (k + 1, m2 + 1) _ ⟨by simp only; omega, hf2.trans (scan_skip hlt2 (hg.trans (Classical.not_not.1 h2)))⟩ (by simp only; omega) ?_
           simp only [go_sem, seval, wrap_succ hw2]
       · have h1' : F < 0 := by omega
         simp only [go_sem, seval, h1, h1']
         refine callD_of (cond_good _ _) ?_
         simp only [go_sem, seval, h1, h1', show k ≤ (nth s.profiles i).groups.length by omega]
         refine callD_of (ContainsS_good ((nth s.profiles i).groups.take k) _ (by rw [List.length_take]; omega)) ?_
         simp only [go_sem, seval, h1, h1']
         refine callD_of (cond_good _ _) ?_
         simp only [go_sem, seval, h1, h1']
         refine callD_of (first3_good _ _ _) ?_
         simp only [go_sem, seval, h1, h1']
         rw [decide_eq_false h1, Bool.false_and, if_neg (show ¬ false = true by simp), if_pos h1'] at hg
         refine ⟨by decide +kernel, ifI (fun h2 => ?_) fun h2 => ?_⟩
         · simp only [go_sem, seval]
           rw [hP, hf.trans (scanI_hit hlt (hG.trans (hf2.trans (scan_hit hlt2 hg h2))) h2)]; exact ⟨rfl, rfl⟩
         · simp only [go_sem, seval]
           refine ih2 (k + 1, m2 + 1) _ ⟨by simp only; omega, hf2.trans (scan_skip hlt2 (hg.trans (Classical.not_not.1 h2)))⟩ (by simp only; omega) ?_
           simp only [go_sem, seval, wrap_succ hw2]
     · subst hst2
       rw [show (nth s.profiles i).groups.length - k = 0 by omega] at hf2
       simp only [go_sem, seval]
       refine ih (i + 1, m2) _ ⟨by simp only; omega, hf.trans (scanI_skip hlt (hG.trans hf2))⟩ (by simp only; omega) ?_
       simp only [go_sem, seval, wrap_succ hw]
   · subst hst
     simp only [go_sem, seval]
     rw [hP, hf, scanI_end (by omega)]; exact ⟨rfl, rfl⟩
set_option maxRecDepth 100000
def secE (s : Sec) : Int × Int :=
 if 12 < s.profiles.length then (0, 2) else if 6 < s.lists.length then (0, 2) else if 8 < s.objects.length then (0, 2)
 else if (profilesE s).2 ≠ 0 then profilesE s else if (scanI (listE s) s.lists.length 0).2 ≠ 0 then scanI (listE s) s.lists.length 0
 else if (scanI (objE s) s.objects.length 0).2 ≠ 0 then scanI (objE s) s.objects.length 0 else ((s.objects.length : Int), 0)
set_option maxHeartbeats 4000000 in
theorem CheckSecurity_good (s : Sec) (hs : Fit s) : Ans Tryz.prog 110 [.agg (encSec s)] (.tup [.int .i64 (secE s).1, .int .i64 (secE s).2]) := by
 refine good_run [(4, [2, 3, 5, 6, 7, 27, 28, 29, 30, 31, 32, 33, 34, 35, 36, 37, 38, 39, 40], []), (1000013, [4, 17], [13, 14, 15, 16]), (1000019, [4, 23], [19, 20, 21, 22])] mixed Tryz.func110 rfl Tryz.ntmps110 (rs := [.tmp 2, .tmp 3]) rfl (by decide +kernel) (by kernel_rfl) rfl ?_
 rw [startE_eq 44 _ _ _ rfl rfl]
 simp only [go_sem, seval]
 refine join_of (decide ((12 : Int) < (s.profiles.length : Int)) || decide ((6 : Int) < (s.lists.length : Int))) ?_ ?_
 · simp (contextual := true) only [go_sem, ifP_eq, seval]
   try (split <;> simp_all)
 simp only [go_sem, seval]
 refine join_of ((decide ((12 : Int) < (s.profiles.length : Int)) || decide ((6 : Int) < (s.lists.length : Int))) || decide ((8 : Int) < (s.objects.length : Int))) ?_ ?_
 · simp (contextual := true) only [go_sem, ifP_eq, seval]
   try (split <;> simp_all)
 simp only [go_sem, seval]
 refine ifI (fun h => ?_) fun h => ?_
 · simp only [go_sem, seval, h]
   simp only [Bool.or_eq_true, decide_eq_true_eq] at h
   have hS : secE s = (0, 2) := by
    rw [secE]; split
    · rfl
    · split
      · rfl
      · rw [if_pos (by omega)]
   rw [hS]; exact ⟨rfl, rfl⟩
 simp only [Bool.or_eq_true, decide_eq_true_eq] at h
 simp only [go_sem, seval, h]
 have hE : secE s = if (profilesE s).2 ≠ 0 then profilesE s else if (scanI (listE s) s.lists.length 0).2 ≠ 0 then scanI (listE s) s.lists.length 0
  else if (scanI (objE s) s.objects.length 0).2 ≠ 0 then scanI (objE s) s.objects.length 0 else ((s.objects.length : Int), 0) := by
  rw [secE, if_neg (by omega), if_neg (by omega), if_neg (by omega)]
 have w1 : IntKind.wrap .i64 1 = 1 := by decide
 have w2 : IntKind.wrap .i64 2 = 2 := by decide
 have w3 : IntKind.wrap .i64 3 = 3 := by decide
 set_option maxRecDepth 100000 in refine loop_unfold ?_
 simp only [go_sem, seval]
 refine call_of (profilesErr_good s hs) ?_
 simp only [go_sem, seval]
 refine ifI (fun h4 => ?_) fun h4 => ?_
 · simp only [go_sem, seval]
   rw [hE, if_pos h4]; exact ⟨rfl, rfl⟩
 simp only [go_sem, seval, w1, show (1 : Int) < 3 by decide]
 set_option maxRecDepth 100000 in refine loop_unfold ?_
 simp only [go_sem, seval]
 refine call_of (listsErr_good s hs) ?_
 simp only [go_sem, seval]
 refine ifI (fun h5 => ?_) fun h5 => ?_
 · simp only [go_sem, seval]
   rw [hE, if_neg h4, if_pos h5]; exact ⟨rfl, rfl⟩
 simp only [go_sem, seval, w2]
 set_option maxRecDepth 100000 in refine loop_unfold ?_
 simp only [go_sem, seval]
 set_option maxRecDepth 100000 in refine call_of (objectsErr_good s hs) ?_
 simp only [go_sem, seval]
 refine ifI (fun h6 => ?_) fun h6 => ?_
 · simp only [go_sem, seval]
   rw [hE, if_neg h4, if_neg h5, if_pos h6]; exact ⟨rfl, rfl⟩
 simp only [go_sem, seval, w3]
 set_option maxRecDepth 100000 in refine loop_unfold ?_
 simp only [go_sem, seval]
 rw [hE, if_neg h4, if_neg h5, if_neg h6]; exact ⟨rfl, rfl⟩
theorem securityErr_good (s : Sec) (hs : Fit s) : Ans Tryz.prog 153 [.agg (encSec s)] (.int .i64 (secE s).2) := by
 refine good_run [] mixed Tryz.func153 rfl Tryz.ntmps153 (rs := [.tmp 2]) rfl (by decide +kernel) (by kernel_rfl) rfl ?_
 rw [startE_eq 13 _ _ _ rfl rfl]
 simp only [go_sem, seval]
 refine call_of (CheckSecurity_good s hs) ?_
 simp only [go_sem, seval]
 refine ifI (fun h4 => ?_) fun h4 => ?_
 · simp only [go_sem, seval]
 · simp only [go_sem, seval]
   have h5 : (secE s).2 = 0 := by simpa using h4
   rw [h5]
def userE (s : Sec) (n : ByteArray) : Int := if profIx s n < 0 then 11 else 0
theorem userErr_good (s : Sec) (n : ByteArray) (hs : Fit s) : Ans Tryz.prog 154 [.agg (encSec s), .str n] (.int .i64 (userE s n)) := by
 refine good_run [] mixed Tryz.func154 rfl Tryz.ntmps154 (rs := [.tmp 4]) rfl (by decide +kernel) (by kernel_rfl) rfl ?_
 rw [startE_eq 10 _ _ _ rfl rfl]
 simp only [go_sem, seval]
 refine call_of (profile_good s _ hs.profiles) ?_
 simp only [go_sem, seval]
 refine call_of (cond_good _ _) ?_
 simp only [go_sem, seval]
 rfl
def ixE (s : Sec) (i : Int) : Int := if (!inB i 0 ((s.objects.length : Int) - 1)) = true then 3 else 0
theorem objectErr_good (s : Sec) (i : Int) (hs : Fit s) : Ans Tryz.prog 155 [.agg (encSec s), .int .i64 i] (.int .i64 (ixE s i)) := by
 refine good_run [] mixed Tryz.func155 rfl Tryz.ntmps155 (rs := [.tmp 4]) rfl (by decide +kernel) (by kernel_rfl) rfl ?_
 rw [startE_eq 13 _ _ _ rfl rfl]
 simp only [go_sem, seval, wrap_i64 (show -9223372036854775808 ≤ (s.objects.length : Int) - 1 by omega) (show (s.objects.length : Int) - 1 ≤ 9223372036854775807 by have := hs.objects; omega)]
 refine call_of (in_good _ _ _) ?_
 simp only [go_sem, seval]
 refine call_of (cond_good _ _) ?_
 simp only [go_sem, seval]
 rfl
theorem objE_cases (s : Sec) (i : Nat) : objE s i = if errName (nth s.objects i).name ≠ 0 then errName (nth s.objects i).name
 else if 0 < i ∧ nLt (nth s.objects (i - 1)).name (nth s.objects i).name = false then 14
 else if findIx (fun p => decide (p.name = (nth s.objects i).owner)) s.profiles 0 = -1 then 11 else if grantsE s (nth s.objects i).grants ≠ 0 then grantsE s (nth s.objects i).grants
 else if ¬ (nth s.objects i).list = ⟨#[]⟩ ∧ findIx (fun p => decide (p.name = (nth s.objects i).list)) s.lists 0 = -1 then 11
 else if (nth s.objects i).byList = true ∧ ((nth s.objects i).list = ⟨#[]⟩ ∨ ¬ (nth s.objects i).pub = 0) then 5
 else if inB (nth s.objects i).pub 0 1023 = false then 3 else 0 := by
 rw [objE_def]
 have g1 := findIx_ge (fun p => decide (p.name = (nth s.objects i).owner)) s.profiles 0
 have g2 := findIx_ge (fun p => decide (p.name = (nth s.objects i).list)) s.lists 0
 have e1 : ∀ F : Int, F = -1 ∨ ((0 : Nat) : Int) ≤ F ∧ F < ((0 : Nat) : Int) + s.profiles.length → ((F < 0) ↔ F = -1) := fun F h => by omega
 have e2 : ∀ F : Int, F = -1 ∨ ((0 : Nat) : Int) ≤ F ∧ F < ((0 : Nat) : Int) + s.lists.length → ((F < 0) ↔ F = -1) := fun F h => by omega
 simp only [firstE, e1 _ g1, e2 _ g2]
 clear g1 g2 e1 e2
 generalize findIx _ s.profiles 0 = F
 generalize findIx _ s.lists 0 = L
 by_cases c1 : errName (nth s.objects i).name = 0
 · simp only [c1, ne_eq, not_true_eq_false, if_false, if_true]
   by_cases c2 : 0 < i ∧ nLt (nth s.objects (i - 1)).name (nth s.objects i).name = false
   · rw [if_pos c2]
     have : (!(decide (i = 0) || nLt (nth s.objects (i - 1)).name (nth s.objects i).name)) = true := by simp [c2.2]; omega
     simp [this]
   · rw [if_neg c2]
     have : (!(decide (i = 0) || nLt (nth s.objects (i - 1)).name (nth s.objects i).name)) = false := by
      rw [Bool.eq_false_iff]; intro h; apply c2; simp at h; exact ⟨Nat.pos_of_ne_zero h.1, h.2⟩
     simp only [this, Bool.false_eq_true, if_false, if_true]
     by_cases c3 : F = -1
     · simp [c3]
     · simp only [c3, if_false, if_true]
       by_cases c4 : grantsE s (nth s.objects i).grants = 0
       · simp only [c4, if_true, not_true_eq_false, if_false]
         by_cases c5 : ¬ (nth s.objects i).list = ⟨#[]⟩ ∧ L = -1
         · simp [c5]
         · rw [if_neg c5]
           have : (decide (¬ (nth s.objects i).list = ⟨#[]⟩) && decide (L = -1)) = false := by
            rw [Bool.eq_false_iff]; intro h; apply c5; simpa using h
           simp only [this, Bool.false_eq_true, if_false, if_true]
           by_cases c6 : (nth s.objects i).byList = true ∧ ((nth s.objects i).list = ⟨#[]⟩ ∨ ¬ (nth s.objects i).pub = 0)
           · rw [if_pos c6]
             have : ((nth s.objects i).byList && (decide ((nth s.objects i).list = ⟨#[]⟩) || decide (¬ (nth s.objects i).pub = 0))) = true := by simpa using c6
             rw [if_pos this]; rfl
           · rw [if_neg c6]
             have : ((nth s.objects i).byList && (decide ((nth s.objects i).list = ⟨#[]⟩) || decide (¬ (nth s.objects i).pub = 0))) = false := by
              rw [Bool.eq_false_iff]; intro h; apply c6; simpa using h
             simp only [this, Bool.false_eq_true, if_false, if_true]
             cases inB (nth s.objects i).pub 0 1023 <;> rfl
       · simp [c4]
 · simp [c1]
set_option maxHeartbeats 4000000 in
theorem objectErrR_good (s : Sec) (i : Nat) (hs : Fit s) (hi : i < s.objects.length) : Ans Tryz.prog 145 [.agg (encSec s), .int .i64 (i : Int)] (.int .i64 (objE s i)) := by
 have hw : i ≤ 9223372036854775807 := by have := hs.objects; omega
 refine good_run [(1000051, [5, 56], [51, 52, 53, 54, 55]), (1000061, [8, 69], [61, 62, 63, 64, 65, 66, 67, 68]), (2000005, [0, 33], [19, 20, 21, 22, 23, 24, 25, 26, 27, 28, 29, 30, 31, 32])] mixed Tryz.func145 rfl Tryz.ntmps145 (rs := [.tmp 4]) rfl (by decide +kernel) (by kernel_rfl) rfl ?_
 rw [startE_eq 75 _ _ _ rfl rfl]
 simp only [go_sem, seval, hi]
 refine call_of (NameErr_good (nth s.objects i).name) ?_
 simp only [go_sem, seval]
 refine ifI (fun h1 => ?_) fun h1 => ?_
 · simp only [go_sem, seval]
   rw [objE_cases, if_pos h1]
 simp only [go_sem, seval]
 refine regD_of (decide (0 < i) && !nLt (nth s.objects (i - 1)).name (nth s.objects i).name) ?_ ?_
 · simp only [go_sem, seval]
   refine ifI (fun h2 => ?_) fun h2 => ?_
   · have h2' : 0 < i := by omega
     simp only [go_sem, seval, h2, hi, wrap_pred (show 0 < i by omega) (show i ≤ 9223372036854775807 by omega), show i - 1 < s.objects.length by omega]
     refine callD_of (Less_good (nth s.objects (i - 1)).name (nth s.objects i).name) ?_
     simp only [go_sem, seval, h2]
     exact ⟨by decide +kernel, by simp [h2']⟩
   · have h2' : ¬ 0 < i := by omega
     simp only [go_sem, seval, h2]
     exact ⟨by decide +kernel, by simp [h2']⟩
 simp only [go_sem, seval]
 refine ifI (fun h2 => ?_) fun h2 => ?_
 · simp only [go_sem, seval]
   rw [objE_cases, if_neg h1, if_pos (by simpa using h2)]
 have h2' : ¬ (0 < i ∧ nLt (nth s.objects (i - 1)).name (nth s.objects i).name = false) := by simpa using h2
 simp only [go_sem, seval]
 refine call_of (User_good s _ hs.profiles) ?_
 simp only [go_sem, seval]
 refine ifI (fun h3 => ?_) fun h3 => ?_
 · simp only [go_sem, seval]
   rw [objE_cases, if_neg h1, if_neg h2', if_pos h3]
 simp only [go_sem, seval]
 refine call_of (grantsErrR_good s _ hs.profiles (hs.ogrants _ (nth_mem hi))) ?_
 simp only [go_sem, seval]
 refine ifI (fun h4 => ?_) fun h4 => ?_
 · simp only [go_sem, seval]
   rw [objE_cases, if_neg h1, if_neg h2', if_neg h3, if_pos h4]
 simp only [go_sem, seval]
 refine join_of (decide (¬ (nth s.objects i).list = ⟨#[]⟩) && decide (findIx (fun p => decide (p.name = (nth s.objects i).list)) s.lists 0 = -1)) ?_ ?_
 · simp only [go_sem, seval]
   refine ifI (fun h5 => ?_) fun h5 => ?_
   · simp only [go_sem, seval, h5]
     refine call_of (List_good s _ hs.lists) ?_
     simp only [go_sem, seval, h5]
   · simp only [go_sem, seval, h5]
 simp only [go_sem, seval]
 refine ifI (fun h5 => ?_) fun h5 => ?_
 · simp only [go_sem, seval]
   rw [objE_cases, if_neg h1, if_neg h2', if_neg h3, if_neg h4, if_pos (by simpa using h5)]
 have h5' : ¬ (¬ (nth s.objects i).list = ⟨#[]⟩ ∧ findIx (fun p => decide (p.name = (nth s.objects i).list)) s.lists 0 = -1) := by simpa using h5
 simp only [go_sem, seval]
 refine join_of ((nth s.objects i).byList && (decide ((nth s.objects i).list = ⟨#[]⟩) || decide (¬ (nth s.objects i).pub = 0))) ?_ ?_
 · simp only [go_sem, seval]
   refine ifI (fun h6 => ?_) fun h6 => ?_
   · simp only [go_sem, seval, h6]
     refine ifI (fun h7 => ?_) fun h7 => ?_
     · simp only [go_sem, seval, h6, h7]
     · simp only [Bool.not_eq_false] at h7
       simp only [go_sem, seval, h6, h7]
   · simp only [Bool.not_eq_true] at h6
     simp only [go_sem, seval, h6]
 simp only [go_sem, seval]
 refine ifI (fun h6 => ?_) fun h6 => ?_
 · simp only [go_sem, seval]
   rw [objE_cases, if_neg h1, if_neg h2', if_neg h3, if_neg h4, if_neg h5', if_pos (by simpa using h6)]
 have h6' : ¬ ((nth s.objects i).byList = true ∧ ((nth s.objects i).list = ⟨#[]⟩ ∨ ¬ (nth s.objects i).pub = 0)) := by simpa using h6
 simp only [go_sem, seval]
 refine call_of (IsAuthority_good _) ?_
 simp only [go_sem, seval]
 refine ifI (fun h7 => ?_) fun h7 => ?_
 · simp only [go_sem, seval]
   rw [objE_cases, if_neg h1, if_neg h2', if_neg h3, if_neg h4, if_neg h5', if_neg h6', if_pos (by simpa using h7)]
 · simp only [go_sem, seval]
   rw [objE_cases, if_neg h1, if_neg h2', if_neg h3, if_neg h4, if_neg h5', if_neg h6', if_neg (by simpa using h7)]
end Go.Proofs.YtbhgehhmjpipiaaGreatDoor.C10
