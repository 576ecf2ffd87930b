/- Chapter 12: the errors of states by the reference, and the law of states. -/
import Derived.Test.YtbhgehhmjpipiaaGreatDoorG9a
set_option linter.unusedSimpArgs false
set_option linter.unusedVariables false
namespace Go.Proofs.YtbhgehhmjpipiaaGreatDoor.C12
open Go Go.Proofs Go.Proofs.YtbhgehhmjpipiaaGreatDoor.Ab Go.Proofs.YtbhgehhmjpipiaaGreatDoor.C10
set_option maxRecDepth 100000
attribute [local congr] ite_ctx
theorem any_no {α : Type} [Inhabited α] {l : List α} {p : α → Bool} (h : ∀ j, j < l.length → p (nth l j) = false) : l.any p = false := by
 rw [List.any_eq_false]
 intro x hx
 obtain ⟨j, hj, rfl⟩ := List.mem_iff_getElem.1 hx
 have := h j hj
 rw [← nth_eq hj]
 rw [this]; decide
theorem any_yes {α : Type} [Inhabited α] {l : List α} {p : α → Bool} {j : Nat} (hj : j < l.length) (h : p (nth l j) = true) : l.any p = true := List.any_eq_true.2 ⟨_, nth_mem hj, h⟩
def goG (C : CC) (s : St) (i : Nat) : Int × Int := if i < s.jobs.length then scanA C s i else scanB C s (i - s.jobs.length)
set_option maxHeartbeats 32000000 in
theorem rCheckState_good (c : Case) (s : St) (hs : Fit c.sec) (hu : c.users.length ≤ 1000) (hS : SmallSt s) : Ans Tryz.prog 41 [.agg (encCase c), .agg (encSt s)] (.tup [.int .i64 (stE c s).1, .int .i64 (stE c s).2]) := by
 have hE := Err12_good c hs hu
 have hdef : stE c s = if ¬ (caseE c).2 = 0 then (0, (caseE c).2) else if ¬ (s.jobs.length = c.users.length ∧ s.spaces.length = c.sec.objects.length) then (0, 6) else scanA (cc c) s 0 := rfl
 generalize stE c s = R at hdef
 have hj1 := hS.jobs
 have hj2 := hS.spaces
 refine Classical.byCases (fun he : (caseE c).2 = 0 => ?_) fun he => ?_
 case refine_2 =>
  rw [if_pos he] at hdef
  subst hdef
  generalize (caseE c).2 = e at hE he
  have het := eq_false he
  refine good_run [(22, [4, 5, 13, 14, 92, 93, 94, 95, 96, 97, 98, 99, 100, 101, 102, 103, 104, 105, 106, 107, 108, 109, 110, 111, 112, 113, 114, 115, 116, 117, 118, 119, 120, 121, 122, 123, 124, 125, 126, 127, 128, 129, 130, 131, 132, 133, 134, 135, 136, 137, 138, 139, 140], [13, 13]), (7, [4, 5, 8, 9, 10, 11, 12, 13, 14, 37, 38, 39, 40, 41, 42, 43, 44, 45, 46, 47, 48, 49, 50, 51, 52, 53, 54, 55, 56, 57, 58, 59, 60, 61, 62, 63, 64, 65, 66, 67, 68, 69, 70, 71, 72, 73, 74, 75, 76, 77, 78, 79, 80, 81, 82, 83, 84, 85, 86, 87, 88, 89, 90, 91, 92, 93, 94, 95, 96, 97, 98, 99, 100, 101, 102, 103, 104, 105, 106, 107, 108, 109, 110, 111, 112, 113, 114, 115, 116, 117, 118, 119, 120, 121, 122, 123, 124, 125, 126, 127, 128, 129, 130, 131, 132, 133, 134, 135, 136, 137, 138, 139, 140], [13, 9, 13])] mixed Tryz.func41 rfl Tryz.ntmps41 (rs := [.tmp 4, .tmp 5]) rfl (by decide +kernel) (by kernel_rfl) rfl ?_
  rw [startE_eq 144 _ _ _ rfl rfl]
  simp only [go_sem, seval]
  refine call_of (hE) ?_
  simp only [go_sem, seval, het, not_false_eq_true, decide_true]
 rw [he] at hE
 rw [if_neg (not_not_intro he)] at hdef
 have h := right_of hs he
 have hU := h.J
 have hB := h.O
 refine Classical.byCases (fun hJ : (s.jobs.length : Int) = (c.users.length : Int) => ?_) fun hJ => ?_
 case refine_2 =>
  rw [if_pos (by omega)] at hdef
  subst hdef
  have hJt := eq_false hJ
  refine good_run [(22, [4, 5, 13, 14, 92, 93, 94, 95, 96, 97, 98, 99, 100, 101, 102, 103, 104, 105, 106, 107, 108, 109, 110, 111, 112, 113, 114, 115, 116, 117, 118, 119, 120, 121, 122, 123, 124, 125, 126, 127, 128, 129, 130, 131, 132, 133, 134, 135, 136, 137, 138, 139, 140], [13, 13]), (7, [4, 5, 8, 9, 10, 11, 12, 13, 14, 37, 38, 39, 40, 41, 42, 43, 44, 45, 46, 47, 48, 49, 50, 51, 52, 53, 54, 55, 56, 57, 58, 59, 60, 61, 62, 63, 64, 65, 66, 67, 68, 69, 70, 71, 72, 73, 74, 75, 76, 77, 78, 79, 80, 81, 82, 83, 84, 85, 86, 87, 88, 89, 90, 91, 92, 93, 94, 95, 96, 97, 98, 99, 100, 101, 102, 103, 104, 105, 106, 107, 108, 109, 110, 111, 112, 113, 114, 115, 116, 117, 118, 119, 120, 121, 122, 123, 124, 125, 126, 127, 128, 129, 130, 131, 132, 133, 134, 135, 136, 137, 138, 139, 140], [13, 9, 13])] mixed Tryz.func41 rfl Tryz.ntmps41 (rs := [.tmp 4, .tmp 5]) rfl (by decide +kernel) (by kernel_rfl) rfl ?_
  rw [startE_eq 144 _ _ _ rfl rfl]
  simp only [go_sem, seval]
  refine call_of (hE) ?_
  simp only [go_sem, seval, hJt, not_false_eq_true, decide_true]
 have hJt := eq_true hJ
 refine Classical.byCases (fun hO : (s.spaces.length : Int) = (c.sec.objects.length : Int) => ?_) fun hO => ?_
 case refine_2 =>
  rw [if_pos (by omega)] at hdef
  subst hdef
  have hOt := eq_false hO
  refine good_run [(22, [4, 5, 13, 14, 92, 93, 94, 95, 96, 97, 98, 99, 100, 101, 102, 103, 104, 105, 106, 107, 108, 109, 110, 111, 112, 113, 114, 115, 116, 117, 118, 119, 120, 121, 122, 123, 124, 125, 126, 127, 128, 129, 130, 131, 132, 133, 134, 135, 136, 137, 138, 139, 140], [13, 13]), (7, [4, 5, 8, 9, 10, 11, 12, 13, 14, 37, 38, 39, 40, 41, 42, 43, 44, 45, 46, 47, 48, 49, 50, 51, 52, 53, 54, 55, 56, 57, 58, 59, 60, 61, 62, 63, 64, 65, 66, 67, 68, 69, 70, 71, 72, 73, 74, 75, 76, 77, 78, 79, 80, 81, 82, 83, 84, 85, 86, 87, 88, 89, 90, 91, 92, 93, 94, 95, 96, 97, 98, 99, 100, 101, 102, 103, 104, 105, 106, 107, 108, 109, 110, 111, 112, 113, 114, 115, 116, 117, 118, 119, 120, 121, 122, 123, 124, 125, 126, 127, 128, 129, 130, 131, 132, 133, 134, 135, 136, 137, 138, 139, 140], [13, 9, 13])] mixed Tryz.func41 rfl Tryz.ntmps41 (rs := [.tmp 4, .tmp 5]) rfl (by decide +kernel) (by kernel_rfl) rfl ?_
  rw [startE_eq 144 _ _ _ rfl rfl]
  simp only [go_sem, seval]
  refine call_of (hE) ?_
  simp only [go_sem, seval, hJt, hOt, not_true_eq_false, decide_false, not_false_eq_true, decide_true]
 have hOt := eq_true hO
 rw [if_neg (by omega)] at hdef
 have hG0 : R = goG (cc c) s 0 := by
  rw [hdef]; unfold goG
  rw [if_pos (by omega)]
 have w0 : IntKind.wrap .i64 ((s.jobs.length : Int) + (s.spaces.length : Int)) = ((s.jobs.length + s.spaces.length : Nat) : Int) := by rw [wrap_i64 (by omega) (by omega)]; omega
 refine good_run [(22, [4, 5, 13, 14, 92, 93, 94, 95, 96, 97, 98, 99, 100, 101, 102, 103, 104, 105, 106, 107, 108, 109, 110, 111, 112, 113, 114, 115, 116, 117, 118, 119, 120, 121, 122, 123, 124, 125, 126, 127, 128, 129, 130, 131, 132, 133, 134, 135, 136, 137, 138, 139, 140], [13, 13]), (7, [4, 5, 8, 9, 10, 11, 12, 13, 14, 37, 38, 39, 40, 41, 42, 43, 44, 45, 46, 47, 48, 49, 50, 51, 52, 53, 54, 55, 56, 57, 58, 59, 60, 61, 62, 63, 64, 65, 66, 67, 68, 69, 70, 71, 72, 73, 74, 75, 76, 77, 78, 79, 80, 81, 82, 83, 84, 85, 86, 87, 88, 89, 90, 91, 92, 93, 94, 95, 96, 97, 98, 99, 100, 101, 102, 103, 104, 105, 106, 107, 108, 109, 110, 111, 112, 113, 114, 115, 116, 117, 118, 119, 120, 121, 122, 123, 124, 125, 126, 127, 128, 129, 130, 131, 132, 133, 134, 135, 136, 137, 138, 139, 140], [13, 9, 13])] mixed Tryz.func41 rfl Tryz.ntmps41 (rs := [.tmp 4, .tmp 5]) rfl (by decide +kernel) (by kernel_rfl) rfl ?_
 rw [startE_eq 144 _ _ _ rfl rfl]
 simp only [go_sem, seval]
 refine call_of (hE) ?_
 simp only [go_sem, seval, hJt, hOt, not_true_eq_false, decide_false]
 refine loop_by ([4, 5, 8, 9, 10, 11, 12, 13, 14, 37, 38, 39, 40, 41, 42, 43, 44, 45, 46, 47, 48, 49, 50, 51, 52, 53, 54, 55, 56, 57, 58, 59, 60, 61, 62, 63, 64, 65, 66, 67, 68, 69, 70, 71, 72, 73, 74, 75, 76, 77, 78, 79, 80, 81, 82, 83, 84, 85, 86, 87, 88, 89, 90, 91, 92, 93, 94, 95, 96, 97, 98, 99, 100, 101, 102, 103, 104, 105, 106, 107, 108, 109, 110, 111, 112, 113, 114, 115, 116, 117, 118, 119, 120, 121, 122, 123, 124, 125, 126, 127, 128, 129, 130, 131, 132, 133, 134, 135, 136, 137, 138, 139, 140], [13, 9, 13]) (fun z : Nat × Nat => [(.s 7, .int .i64 (z.1 : Int)), (.o 9, deadV z.1), (.o 13, deadV z.2)]) (fun z => s.jobs.length + s.spaces.length - z.1) (fun z => z.1 ≤ s.jobs.length + s.spaces.length ∧ R = goG (cc c) s z.1) (0, 0) rfl ⟨Nat.zero_le _, hG0⟩ ?_ ?_
 · simp only [go_sem, seval]
 rintro c' st' hst ⟨i, m⟩ ⟨hi, hf⟩ ih
 simp only at hi hf ih ⊢
 simp only [go_sem, seval, w0]
 refine ifI (fun hlt => ?_) fun hlt => ?_
 case refine_2 =>
  have hR : R = ((s.jobs.length : Int), 0) := by
   rw [hf]; unfold goG
   rw [if_neg (by omega)]; exact scanB_end (by omega)
  subst hst
  simp only [go_sem, seval, hlt]
  rw [hR]
  try exact ⟨rfl, rfl⟩
 refine Classical.byCases (fun hiJ : (i : Int) < (s.jobs.length : Int) => ?_) fun hiJ => ?_
 · have hiJ' : i < s.jobs.length := by omega
   have hiJt := eq_true hiJ
   have hg := hS.job _ (nth_mem hiJ')
   have hstep : goG (cc c) s i = if stoE (cc c) (nth s.jobs i) 60 = 0 then goG (cc c) s (i + 1) else ((i : Int), stoE (cc c) (nth s.jobs i) 60) := by
    unfold goG
    rw [if_pos hiJ', scanA_step hiJ']
    split
    · split
      · rfl
      · rw [scanA_end (by omega), show i + 1 - s.jobs.length = 0 by omega]
    · rfl
   rw [hstep] at hf
   clear hstep
   have hrE := rErr_good (nth s.jobs i) (by omega) (by omega)
   have hPt := rPointers_good (nth s.jobs i) (by omega)
   have hv : stoE (cc c) (nth s.jobs i) 60 = if ¬ (stgE (nth s.jobs i)).2 = 0 then (stgE (nth s.jobs i)).2 else if ¬ ((nth s.jobs i)).tags.length = 60 then 18 else if (ptrP (nth s.jobs i) ((nth s.jobs i)).tags.length).any (badP (cc c)) = true then 22 else 0 := rfl
   generalize stoE (cc c) (nth s.jobs i) 60 = E at hv hf
   generalize hX : (nth s.jobs i) = x at hrE hPt hv hg
   refine Classical.byCases (fun he2 : (stgE x).2 = 0 => ?_) fun he2 => ?_
   case refine_2 =>
    rw [if_pos he2] at hv
    rw [hv, if_neg he2] at hf
    generalize (stgE x).2 = e at hrE he2 hf
    have het := eq_false he2
    simp only [go_sem, seval, hlt, hiJt, hiJ, hiJ', hX]
    refine call_of (hrE) ?_
    simp only [go_sem, seval, het, not_false_eq_true, decide_true]
    rw [hf]
    try exact ⟨rfl, rfl⟩
   rw [if_neg (not_not_intro he2)] at hv
   have hok := sok_of he2
   rw [he2] at hrE
   refine Classical.byCases (fun hn : (x.tags.length : Int) = 60 => ?_) fun hn => ?_
   case refine_2 =>
    rw [if_pos (by omega)] at hv
    rw [hv, if_neg (by decide)] at hf
    have hnt := eq_false hn
    simp only [go_sem, seval, hlt, hiJt, hiJ, hiJ', hX]
    refine call_of (hrE) ?_
    simp only [go_sem, seval, hnt, not_false_eq_true, decide_true]
    rw [hf]
    try exact ⟨rfl, rfl⟩
   rw [if_neg (by omega)] at hv
   have hnt := eq_true hn
   have hxs := hok.size
   have hxm := hok.small
   have hKl := tagK_len x x.tags.length
   have hAl : (atsL x x.tags.length).length = (tagK x x.tags.length).length := List.length_map ..
   have hPl : (ptrP x x.tags.length).length = (tagK x x.tags.length).length := List.length_map ..
   have hAt : ∀ j, j < (tagK x x.tags.length).length → nth (atsL x x.tags.length) j = ((16 * nth (tagK x x.tags.length) j : Nat) : Int) := fun j hj => nth_map' _ hj
   have hPe : ∀ j, j < (tagK x x.tags.length).length → nth (ptrP x x.tags.length) j = (ptrIn (quadB x.bytes (nth (tagK x x.tags.length) j))).1 := fun j hj => nth_map' _ hj
   have hK : ∀ j, j < (tagK x x.tags.length).length → nth (tagK x x.tags.length) j < x.tags.length ∧ nth x.tags (nth (tagK x x.tags.length) j) = true := fun j hj => tagK_mem.1 (nth_mem hj)
   generalize atsL x x.tags.length = A at hPt hAl hAt
   generalize ptrP x x.tags.length = P at hv hPl hPe
   generalize tagK x x.tags.length = K at hAl hPl hAt hPe hK hKl
   simp only [go_sem, seval, hlt, hiJt, hiJ, hiJ', hX]
   refine call_of (hrE) ?_
   simp only [go_sem, seval, hnt, not_true_eq_false, decide_false]
   refine call_of (hPt) ?_
   simp only [go_sem, seval]
   have ihh := show id _ from ih
   clear ih
   refine loop_by ([4, 5, 13, 14, 92, 93, 94, 95, 96, 97, 98, 99, 100, 101, 102, 103, 104, 105, 106, 107, 108, 109, 110, 111, 112, 113, 114, 115, 116, 117, 118, 119, 120, 121, 122, 123, 124, 125, 126, 127, 128, 129, 130, 131, 132, 133, 134, 135, 136, 137, 138, 139, 140], [13, 13]) (fun z : Nat × Nat => [(.s 12, .int .i64 (z.1 : Int)), (.o 13, deadV z.2)]) (fun z => A.length - z.1) (fun z => z.1 ≤ A.length ∧ ∀ j, j < z.1 → badP (cc c) (nth P j) = false) (0, m) rfl ⟨Nat.zero_le _, fun j hj => absurd hj (Nat.not_lt_zero _)⟩ ?_ ?_
   · simp only [go_sem, seval]
   rintro c2 st2 hst2 ⟨j, mm⟩ ⟨hj, hp⟩ ih2
   simp only at hj hp ih2 ⊢
   simp only [go_sem, seval]
   refine ifI (fun hlj => ?_) fun hlj => ?_
   case refine_2 =>
    subst hst2
    have hno : P.any (badP (cc c)) = false := any_no fun j' hj' => hp j' (by omega)
    rw [hno, if_neg (by decide)] at hv
    rw [hv, if_pos rfl] at hf
    simp only [go_sem, seval, hlj]
    refine ihh (i + 1, mm) _ ⟨by simp only; omega, hf⟩ (by simp only; omega) ?_
    simp only [go_sem, seval, wrap_succ (show i < 9223372036854775807 by omega)]
   have hlj' : j < A.length := by omega
   have hjK : j < K.length := by omega
   have hAj := hAt j hjK
   have hPj := hPe j hjK
   obtain ⟨hk1, hk2⟩ := hK j hjK
   have hld := rLoad_good x hok (nth K j) hk1 hk2
   have hpe := ptrE_ok.1 (ptrIn_err (hok.ptr _ hk1 hk2))
   rw [← hPj] at hld hpe
   have hend : badP (cc c) (nth P j) = true → R = ((i : Int), 22) := fun hb => by
    rw [any_yes (by omega) hb, if_pos rfl] at hv
    rw [hf, hv, if_neg (by decide)]
   have hgo : badP (cc c) (nth P j) = false → ∀ j', j' < j + 1 → badP (cc c) (nth P j') = false := fun hb j' hj' => by
    rcases Nat.lt_or_ge j' j with q | q
    · exact hp j' q
    · rw [show j' = j by omega]; exact hb
   generalize nth P j = p at hld hpe hend hgo
   generalize ((16 * nth K j : Nat) : Int) = at' at hAj hld
   have hw := Within_good p.seg 1 (s.spaces.length : Int)
   have hbi : inB p.seg 1 (s.spaces.length : Int) = inB (p.seg - 1) 0 ((c.sec.objects.length : Int) - 1) := by
    unfold inB
    exact decide_eq_decide.2 (by omega)
   have hbd : badP (cc c) p = (decide (p.kind = 2) || !decide (p.off = 0) || !inB p.seg 1 (s.spaces.length : Int) || (decide (p.kind = 0) && !spB c (p.seg - 1))) := by rw [hbi]; rfl
   have w9 : IntKind.wrap .i64 (p.seg - 1) = p.seg - 1 := wrap_i64 (by omega) (by omega)
   simp only [go_sem, seval, hlj, hlj', hAj]
   refine callD_of (hld) ?_
   simp only [go_sem, seval]
   refine ⟨by decide +kernel, ?_⟩
   refine Classical.byCases (fun k2 : p.kind = 2 => ?_) fun k2 => ?_
   · have k2t := eq_true k2
     have hR := hend (by rw [hbd, decide_eq_true k2]; rfl)
     simp only [go_sem, seval, k2t, decide_true]
     rw [hR]
     try exact ⟨rfl, rfl⟩
   have k2t := eq_false k2
   rw [decide_eq_false k2, Bool.false_or] at hbd
   refine Classical.byCases (fun o0 : p.off = 0 => ?_) fun o0 => ?_
   case refine_2 =>
    have o0t := eq_false o0
    have hR := hend (by rw [hbd, decide_eq_false o0]; rfl)
    simp only [go_sem, seval, k2t, decide_false, o0t, not_false_eq_true, decide_true]
    rw [hR]
    try exact ⟨rfl, rfl⟩
   have o0t := eq_true o0
   rw [decide_eq_true o0, Bool.not_true, Bool.false_or] at hbd
   cases hb1 : inB p.seg 1 (s.spaces.length : Int) with
   | false =>
     rw [hb1] at hw hbd
     have hR := hend (by rw [hbd]; rfl)
     simp only [go_sem, seval, k2t, decide_false, o0t, not_true_eq_false]
     refine call_of (hw) ?_
     simp only [go_sem, seval, Bool.not_false]
     rw [hR]
     try exact ⟨rfl, rfl⟩
   | true =>
   rw [hb1] at hw hbd
   rw [Bool.not_true, Bool.false_or] at hbd
   refine Classical.byCases (fun k0 : p.kind = 0 => ?_) fun k0 => ?_
   case refine_2 =>
    have k0t := eq_false k0
    have hR := hgo (by rw [hbd, decide_eq_false k0]; rfl)
    simp only [go_sem, seval, k2t, decide_false, o0t, not_true_eq_false]
    refine call_of (hw) ?_
    simp only [go_sem, seval, Bool.not_true, k0t, decide_false]
    refine ih2 (j + 1, mm + 1) _ ⟨by simp only; omega, hR⟩ (by simp only; omega) ?_
    simp only [go_sem, seval, wrap_succ (show j < 9223372036854775807 by omega)]
   have k0t := eq_true k0
   rw [decide_eq_true k0, Bool.true_and] at hbd
   have hrg : 1 ≤ p.seg ∧ p.seg ≤ (s.spaces.length : Int) := by unfold inB at hb1; exact of_decide_eq_true hb1
   have hsp := IsSpace_good c (p.seg - 1) (by omega)
   cases hb2 : spB c (p.seg - 1) with
   | false =>
     rw [hb2] at hsp hbd
     have hR := hend (by rw [hbd]; rfl)
     simp only [go_sem, seval, k2t, decide_false, o0t, not_true_eq_false]
     refine call_of (hw) ?_
     simp only [go_sem, seval, Bool.not_true, k0t, decide_true, w9]
     refine call_of (hsp) ?_
     simp only [go_sem, seval, Bool.not_false]
     rw [hR]
     try exact ⟨rfl, rfl⟩
   | true =>
   rw [hb2] at hsp hbd
   have hR := hgo (by rw [hbd]; rfl)
   simp only [go_sem, seval, k2t, decide_false, o0t, not_true_eq_false]
   refine call_of (hw) ?_
   simp only [go_sem, seval, Bool.not_true, k0t, decide_true, w9]
   refine call_of (hsp) ?_
   simp only [go_sem, seval, Bool.not_true]
   refine ih2 (j + 1, mm + 1) _ ⟨by simp only; omega, hR⟩ (by simp only; omega) ?_
   simp only [go_sem, seval, wrap_succ (show j < 9223372036854775807 by omega)]
 have hnJ : ((i : Int) < (s.jobs.length : Int)) = False := eq_false hiJ
 obtain ⟨k, hk⟩ : ∃ k, i = s.jobs.length + k := ⟨i - s.jobs.length, by omega⟩
 have hk' : k < s.spaces.length := by omega
 have hk2 : (k : Int) < (s.spaces.length : Int) := by omega
 have hg := hS.space _ (nth_mem hk')
 have hqd := quads_le (cc c) k
 have hqs := IsSpace_good c (k : Int) (by omega)
 have hqc := Count_good (spB c (k : Int))
 have hqm : IntKind.wrap .i64 (60 * (if spB c (k : Int) = true then 1 else 0)) = ((quadsC (cc c) k : Nat) : Int) := by
  have hd : quadsC (cc c) k = if spB c (k : Int) = true then 60 else 0 := rfl
  rw [hd]; split <;> rfl
 have w5 : IntKind.wrap .i64 ((i : Int) - (s.jobs.length : Int)) = (k : Int) := by rw [wrap_i64 (by omega) (by omega)]; omega
 have hstep : goG (cc c) s i = if stoE (cc c) (nth s.spaces k) (quadsC (cc c) k) = 0 then goG (cc c) s (i + 1) else ((i : Int), stoE (cc c) (nth s.spaces k) (quadsC (cc c) k)) := by
  have e1 : goG (cc c) s i = scanB (cc c) s k := by unfold goG; rw [if_neg (by omega), show i - s.jobs.length = k by omega]
  have e2 : goG (cc c) s (i + 1) = scanB (cc c) s (k + 1) := by unfold goG; rw [if_neg (by omega), show i + 1 - s.jobs.length = k + 1 by omega]
  rw [e1, e2, scanB_step hk', hk]
 rw [hstep] at hf
 clear hstep
 have hrE := rErr_good (nth s.spaces k) (by omega) (by omega)
 have hPt := rPointers_good (nth s.spaces k) (by omega)
 have hv : stoE (cc c) (nth s.spaces k) (quadsC (cc c) k) = if ¬ (stgE (nth s.spaces k)).2 = 0 then (stgE (nth s.spaces k)).2 else if ¬ ((nth s.spaces k)).tags.length = (quadsC (cc c) k) then 18 else if (ptrP (nth s.spaces k) ((nth s.spaces k)).tags.length).any (badP (cc c)) = true then 22 else 0 := rfl
 generalize stoE (cc c) (nth s.spaces k) (quadsC (cc c) k) = E at hv hf
 generalize hX : (nth s.spaces k) = x at hrE hPt hv hg
 refine Classical.byCases (fun he2 : (stgE x).2 = 0 => ?_) fun he2 => ?_
 case refine_2 =>
  rw [if_pos he2] at hv
  rw [hv, if_neg he2] at hf
  generalize (stgE x).2 = e at hrE he2 hf
  have het := eq_false he2
  simp only [go_sem, seval, hlt, hnJ, w5, hk2, hk', hX]
  refine call_of (hqs) ?_
  simp only [go_sem, seval]
  refine call_of (hqc) ?_
  simp only [go_sem, seval, hqm]
  refine call_of (hrE) ?_
  simp only [go_sem, seval, het, not_false_eq_true, decide_true]
  rw [hf]
  try exact ⟨rfl, rfl⟩
 rw [if_neg (not_not_intro he2)] at hv
 have hok := sok_of he2
 rw [he2] at hrE
 refine Classical.byCases (fun hn : (x.tags.length : Int) = ((quadsC (cc c) k : Nat) : Int) => ?_) fun hn => ?_
 case refine_2 =>
  rw [if_pos (by omega)] at hv
  rw [hv, if_neg (by decide)] at hf
  have hnt := eq_false hn
  simp only [go_sem, seval, hlt, hnJ, w5, hk2, hk', hX]
  refine call_of (hqs) ?_
  simp only [go_sem, seval]
  refine call_of (hqc) ?_
  simp only [go_sem, seval, hqm]
  refine call_of (hrE) ?_
  simp only [go_sem, seval, hnt, not_false_eq_true, decide_true]
  rw [hf]
  try exact ⟨rfl, rfl⟩
 rw [if_neg (by omega)] at hv
 have hnt := eq_true hn
 have hxs := hok.size
 have hxm := hok.small
 have hKl := tagK_len x x.tags.length
 have hAl : (atsL x x.tags.length).length = (tagK x x.tags.length).length := List.length_map ..
 have hPl : (ptrP x x.tags.length).length = (tagK x x.tags.length).length := List.length_map ..
 have hAt : ∀ j, j < (tagK x x.tags.length).length → nth (atsL x x.tags.length) j = ((16 * nth (tagK x x.tags.length) j : Nat) : Int) := fun j hj => nth_map' _ hj
 have hPe : ∀ j, j < (tagK x x.tags.length).length → nth (ptrP x x.tags.length) j = (ptrIn (quadB x.bytes (nth (tagK x x.tags.length) j))).1 := fun j hj => nth_map' _ hj
 have hK : ∀ j, j < (tagK x x.tags.length).length → nth (tagK x x.tags.length) j < x.tags.length ∧ nth x.tags (nth (tagK x x.tags.length) j) = true := fun j hj => tagK_mem.1 (nth_mem hj)
 generalize atsL x x.tags.length = A at hPt hAl hAt
 generalize ptrP x x.tags.length = P at hv hPl hPe
 generalize tagK x x.tags.length = K at hAl hPl hAt hPe hK hKl
 simp only [go_sem, seval, hlt, hnJ, w5, hk2, hk', hX]
 refine call_of (hqs) ?_
 simp only [go_sem, seval]
 refine call_of (hqc) ?_
 simp only [go_sem, seval, hqm]
 refine call_of (hrE) ?_
 simp only [go_sem, seval, hnt, not_true_eq_false, decide_false]
 refine call_of (hPt) ?_
 simp only [go_sem, seval]
 have ihh := show id _ from ih
 clear ih
 refine loop_by ([4, 5, 13, 14, 92, 93, 94, 95, 96, 97, 98, 99, 100, 101, 102, 103, 104, 105, 106, 107, 108, 109, 110, 111, 112, 113, 114, 115, 116, 117, 118, 119, 120, 121, 122, 123, 124, 125, 126, 127, 128, 129, 130, 131, 132, 133, 134, 135, 136, 137, 138, 139, 140], [13, 13]) (fun z : Nat × Nat => [(.s 12, .int .i64 (z.1 : Int)), (.o 13, deadV z.2)]) (fun z => A.length - z.1) (fun z => z.1 ≤ A.length ∧ ∀ j, j < z.1 → badP (cc c) (nth P j) = false) (0, m) rfl ⟨Nat.zero_le _, fun j hj => absurd hj (Nat.not_lt_zero _)⟩ ?_ ?_
 · simp only [go_sem, seval]
 rintro c2 st2 hst2 ⟨j, mm⟩ ⟨hj, hp⟩ ih2
 simp only at hj hp ih2 ⊢
 simp only [go_sem, seval]
 refine ifI (fun hlj => ?_) fun hlj => ?_
 case refine_2 =>
  subst hst2
  have hno : P.any (badP (cc c)) = false := any_no fun j' hj' => hp j' (by omega)
  rw [hno, if_neg (by decide)] at hv
  rw [hv, if_pos rfl] at hf
  simp only [go_sem, seval, hlj]
  refine ihh (i + 1, mm) _ ⟨by simp only; omega, hf⟩ (by simp only; omega) ?_
  simp only [go_sem, seval, wrap_succ (show i < 9223372036854775807 by omega)]
 have hlj' : j < A.length := by omega
 have hjK : j < K.length := by omega
 have hAj := hAt j hjK
 have hPj := hPe j hjK
 obtain ⟨hk1, hk2⟩ := hK j hjK
 have hld := rLoad_good x hok (nth K j) hk1 hk2
 have hpe := ptrE_ok.1 (ptrIn_err (hok.ptr _ hk1 hk2))
 rw [← hPj] at hld hpe
 have hend : badP (cc c) (nth P j) = true → R = ((i : Int), 22) := fun hb => by
  rw [any_yes (by omega) hb, if_pos rfl] at hv
  rw [hf, hv, if_neg (by decide)]
 have hgo : badP (cc c) (nth P j) = false → ∀ j', j' < j + 1 → badP (cc c) (nth P j') = false := fun hb j' hj' => by
  rcases Nat.lt_or_ge j' j with q | q
  · exact hp j' q
  · rw [show j' = j by omega]; exact hb
 generalize nth P j = p at hld hpe hend hgo
 generalize ((16 * nth K j : Nat) : Int) = at' at hAj hld
 have hw := Within_good p.seg 1 (s.spaces.length : Int)
 have hbi : inB p.seg 1 (s.spaces.length : Int) = inB (p.seg - 1) 0 ((c.sec.objects.length : Int) - 1) := by
  unfold inB
  exact decide_eq_decide.2 (by omega)
 have hbd : badP (cc c) p = (decide (p.kind = 2) || !decide (p.off = 0) || !inB p.seg 1 (s.spaces.length : Int) || (decide (p.kind = 0) && !spB c (p.seg - 1))) := by rw [hbi]; rfl
 have w9 : IntKind.wrap .i64 (p.seg - 1) = p.seg - 1 := wrap_i64 (by omega) (by omega)
 simp only [go_sem, seval, hlj, hlj', hAj]
 refine callD_of (hld) ?_
 simp only [go_sem, seval]
 refine ⟨by decide +kernel, ?_⟩
 refine Classical.byCases (fun k2 : p.kind = 2 => ?_) fun k2 => ?_
 · have k2t := eq_true k2
   have hR := hend (by rw [hbd, decide_eq_true k2]; rfl)
   simp only [go_sem, seval, k2t, decide_true]
   rw [hR]
   try exact ⟨rfl, rfl⟩
 have k2t := eq_false k2
 rw [decide_eq_false k2, Bool.false_or] at hbd
 refine Classical.byCases (fun o0 : p.off = 0 => ?_) fun o0 => ?_
 case refine_2 =>
  have o0t := eq_false o0
  have hR := hend (by rw [hbd, decide_eq_false o0]; rfl)
  simp only [go_sem, seval, k2t, decide_false, o0t, not_false_eq_true, decide_true]
  rw [hR]
  try exact ⟨rfl, rfl⟩
 have o0t := eq_true o0
 rw [decide_eq_true o0, Bool.not_true, Bool.false_or] at hbd
 cases hb1 : inB p.seg 1 (s.spaces.length : Int) with
 | false =>
   rw [hb1] at hw hbd
   have hR := hend (by rw [hbd]; rfl)
   simp only [go_sem, seval, k2t, decide_false, o0t, not_true_eq_false]
   refine call_of (hw) ?_
   simp only [go_sem, seval, Bool.not_false]
   rw [hR]
   try exact ⟨rfl, rfl⟩
 | true =>
 rw [hb1] at hw hbd
 rw [Bool.not_true, Bool.false_or] at hbd
 refine Classical.byCases (fun k0 : p.kind = 0 => ?_) fun k0 => ?_
 case refine_2 =>
  have k0t := eq_false k0
  have hR := hgo (by rw [hbd, decide_eq_false k0]; rfl)
  simp only [go_sem, seval, k2t, decide_false, o0t, not_true_eq_false]
  refine call_of (hw) ?_
  simp only [go_sem, seval, Bool.not_true, k0t, decide_false]
  refine ih2 (j + 1, mm + 1) _ ⟨by simp only; omega, hR⟩ (by simp only; omega) ?_
  simp only [go_sem, seval, wrap_succ (show j < 9223372036854775807 by omega)]
 have k0t := eq_true k0
 rw [decide_eq_true k0, Bool.true_and] at hbd
 have hrg : 1 ≤ p.seg ∧ p.seg ≤ (s.spaces.length : Int) := by unfold inB at hb1; exact of_decide_eq_true hb1
 have hsp := IsSpace_good c (p.seg - 1) (by omega)
 cases hb2 : spB c (p.seg - 1) with
 | false =>
   rw [hb2] at hsp hbd
   have hR := hend (by rw [hbd]; rfl)
   simp only [go_sem, seval, k2t, decide_false, o0t, not_true_eq_false]
   refine call_of (hw) ?_
   simp only [go_sem, seval, Bool.not_true, k0t, decide_true, w9]
   refine call_of (hsp) ?_
   simp only [go_sem, seval, Bool.not_false]
   rw [hR]
   try exact ⟨rfl, rfl⟩
 | true =>
 rw [hb2] at hsp hbd
 have hR := hgo (by rw [hbd]; rfl)
 simp only [go_sem, seval, k2t, decide_false, o0t, not_true_eq_false]
 refine call_of (hw) ?_
 simp only [go_sem, seval, Bool.not_true, k0t, decide_true, w9]
 refine call_of (hsp) ?_
 simp only [go_sem, seval, Bool.not_true]
 refine ih2 (j + 1, mm + 1) _ ⟨by simp only; omega, hR⟩ (by simp only; omega) ?_
 simp only [go_sem, seval, wrap_succ (show j < 9223372036854775807 by omega)]
end Go.Proofs.YtbhgehhmjpipiaaGreatDoor.C12
