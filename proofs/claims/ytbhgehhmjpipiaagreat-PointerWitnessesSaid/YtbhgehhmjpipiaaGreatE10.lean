/- Chapter 12: the closure of the reference. -/
import Derived.Test.YtbhgehhmjpipiaaGreatE9
namespace Go.Proofs.YtbhgehhmjpipiaaGreat.C12
open Go Go.Proofs Go.Proofs.YtbhgehhmjpipiaaGreat.Ab Go.Proofs.YtbhgehhmjpipiaaGreat.C10
set_option maxRecDepth 100000
set_option linter.unusedSimpArgs false
set_option linter.unusedVariables false
attribute [local congr] ite_ctx
theorem rAuthority_good {c : Case} (h : Right c) {j k : Nat} (hj : j < c.users.length) (hk : k < c.sec.objects.length) : Ans Tryz.prog 44 [.agg (encSec c.sec), .str (nth c.users j), .int .i64 (k : Int)] (.agg [.int .i64 (auI c j k), .int .i64 (authorityP c.sec (nth c.users j) (nth c.sec.objects k)).reason, .str (authorityP c.sec (nth c.users j) (nth c.sec.objects k)).by_]) := by
  have hA := Authority_good c.sec (nth c.users j) (k : Int) h.sound (h.user j hj) ⟨by omega, by omega, by omega⟩
  have e2 : authorityP c.sec (nth c.users j) (objOf c.sec (k : Int)) = authorityP c.sec (nth c.users j) (nth c.sec.objects k) := by unfold objOf; rw [Int.toNat_natCast]
  rw [e2] at hA
  exact hA
set_option maxHeartbeats 16000000 in
theorem rClosure_good (c : Case) (h : Right c) : Ans Tryz.prog 16 [.agg (encCase c)] (.sl ((rClosure (cc c)).map encCap)) := by
  have hF := h.cfit
  have hJ := h.J
  have hO := h.O
  generalize hD : rClosure (cc c) = D
  refine good_run [(3000002, [], [104000000000000000000003]), (19, [11, 77, 78, 79, 80, 81, 82, 83, 84, 85, 86, 87, 88, 89, 90, 91, 92, 93, 94, 95, 96, 97, 98, 99, 100, 101], [11]), (13, [9, 10, 11, 46, 47, 48, 49, 50, 51, 52, 53, 54, 55, 56, 57, 58, 59, 60, 61, 62, 63, 64, 65, 66, 67, 68, 69, 70, 71, 72, 73, 74, 75, 76, 77, 78, 79, 80, 81, 82, 83, 84, 85, 86, 87, 88, 89, 90, 91, 92, 93, 94, 95, 96, 97, 98, 99, 100, 101], [9, 11]), (11, [2, 7, 8, 9, 10, 11, 45, 46, 47, 48, 49, 50, 51, 52, 53, 54, 55, 56, 57, 58, 59, 60, 61, 62, 63, 64, 65, 66, 67, 68, 69, 70, 71, 72, 73, 74, 75, 76, 77, 78, 79, 80, 81, 82, 83, 84, 85, 86, 87, 88, 89, 90, 91, 92, 93, 94, 95, 96, 97, 98, 99, 100, 101, 102, 103, 104, 105, 106, 107, 108], [9, 11]), (6, [6, 19, 20, 21, 22, 23, 24, 25, 26, 27, 28, 29, 30, 31, 32, 33, 34, 35, 36, 37, 38, 39, 40, 41, 42, 43, 44], []), (3, [5, 6, 12, 13, 14, 15, 16, 17, 18, 19, 20, 21, 22, 23, 24, 25, 26, 27, 28, 29, 30, 31, 32, 33, 34, 35, 36, 37, 38, 39, 40, 41, 42, 43, 44], [])] mixed Tryz.func16 rfl Tryz.ntmps16 (rs := [.tmp 2]) rfl (by decide +kernel) (by kernel_rfl) rfl ?_
  rw [startE_eq 109 _ _ _ rfl rfl]
  simp only [go_sem, seval]
  refine loop_by ([5, 6, 12, 13, 14, 15, 16, 17, 18, 19, 20, 21, 22, 23, 24, 25, 26, 27, 28, 29, 30, 31, 32, 33, 34, 35, 36, 37, 38, 39, 40, 41, 42, 43, 44], []) (fun x : Nat × List Cap => [(.s 4, .int .i64 (x.1 : Int)), (.s 3, .sl (x.2.map encCap))]) (fun x => c.users.length - x.1)
    (fun x => x.1 ≤ c.users.length ∧ ROk (cc c) x.2 ∧ rSeeds (cc c) = rSeedsGo (cc c) x.2 ((List.range c.users.length).drop x.1)) (0, []) rfl ⟨Nat.zero_le _, ⟨by simp [Sorted], fun x hx => by cases hx⟩, rfl⟩ ?_ ?_
  · simp only [go_sem, seval]
  rintro c' st' hst ⟨j, m⟩ ⟨hj, hok, hf⟩ ih
  simp only at hj hok hf ih ⊢
  simp only [go_sem, seval]
  refine ifI (fun hlt => ?_) fun hlt => ?_
  · have hjj : j < c.users.length := by omega
    simp only [go_sem, seval, hlt]
    have ihh := show id _ from ih
    clear ih
    refine loop_by ([6, 19, 20, 21, 22, 23, 24, 25, 26, 27, 28, 29, 30, 31, 32, 33, 34, 35, 36, 37, 38, 39, 40, 41, 42, 43, 44], []) (fun z : Nat × List Cap => [(.s 5, .int .i64 (z.1 : Int)), (.s 3, .sl (z.2.map encCap))]) (fun z => c.sec.objects.length - z.1)
      (fun z => z.1 ≤ c.sec.objects.length ∧ ROk (cc c) z.2 ∧ rSeeds (cc c) = rSeedsGo (cc c) (rSeedJ (cc c) z.2 j ((List.range c.sec.objects.length).drop z.1)) ((List.range c.users.length).drop (j + 1))) (0, m) rfl ⟨Nat.zero_le _, hok, by rw [hf, drop_range hjj]; rfl⟩ ?_ ?_
    · simp only [go_sem, seval]
    rintro c2 st2 hst2 ⟨k, n⟩ ⟨hk, hok2, hf2⟩ ih2
    simp only at hk hok2 hf2 ih2 ⊢
    simp only [go_sem, seval]
    refine ifI (fun hkl => ?_) fun hkl => ?_
    case refine_2 =>
      subst hst2
      simp only [go_sem, seval, hkl]
      refine ihh (j + 1, n) _ ⟨by simp only; omega, hok2, by rw [hf2, List.drop_eq_nil_of_le (by simp; omega)]; rfl⟩ (by simp only; omega) ?_
      simp only [go_sem, seval, wrap_succ (show j < 9223372036854775807 by omega)]
    have hkk : k < c.sec.objects.length := by omega
    have hn60 := hF.rlen hok2
    have hA := rAuthority_good h hjj hkk
    simp only [go_sem, seval, hkl, hjj]
    refine callD_of (hA) ?_
    simp only [go_sem, seval]
    refine ⟨by decide +kernel, ?_⟩
    refine Classical.byCases (fun ha0 : auI c j k = 0 => ?_) fun ha0 => ?_
    · have hat : (auI c j k = 0) = True := eq_true ha0
      simp only [go_sem, seval, hat, not_true_eq_false, decide_false]
      refine ih2 (k + 1, n) _ ⟨by simp only; omega, hok2, ?_⟩ (by simp only; omega) ?_
      · rw [hf2, drop_range hkk, rSeedJ, if_pos (show (cc c).au j k = 0 from ha0)]
      simp only [go_sem, seval, wrap_succ (show k < 9223372036854775807 by omega)]
    have hat : (auI c j k = 0) = False := eq_false ha0
    have hput := put_good n ⟨(j : Int), (k : Int), 1, auI c j k⟩ (by omega)
    have hok3 : ROk (cc c) (put n ⟨(j : Int), (k : Int), 1, auI c j k⟩) := hok2.put (cc c) (Drv.seed j k hjj hkk ha0)
    have hstep : rSeeds (cc c) = rSeedsGo (cc c) (rSeedJ (cc c) (put n ⟨(j : Int), (k : Int), 1, auI c j k⟩) j ((List.range c.sec.objects.length).drop (k + 1))) ((List.range c.users.length).drop (j + 1)) := by
      rw [hf2, drop_range hkk, rSeedJ, if_neg (show ¬ (cc c).au j k = 0 from ha0)]; rfl
    generalize put n ⟨(j : Int), (k : Int), 1, auI c j k⟩ = n' at hput hok3 hstep
    simp only [go_sem, seval, hat, not_false_eq_true, decide_true]
    refine call_of (hput) ?_
    simp only [go_sem, seval]
    refine ih2 (k + 1, n') _ ⟨by simp only; omega, hok3, hstep⟩ (by simp only; omega) ?_
    simp only [go_sem, seval, wrap_succ (show k < 9223372036854775807 by omega)]
  have hm : rSeeds (cc c) = m := by rw [hf, List.drop_eq_nil_of_le (by simp; omega)]; rfl
  clear ih
  subst hst
  simp only [go_sem, seval, hlt]
  refine loop_by ([2, 7, 8, 9, 10, 11, 45, 46, 47, 48, 49, 50, 51, 52, 53, 54, 55, 56, 57, 58, 59, 60, 61, 62, 63, 64, 65, 66, 67, 68, 69, 70, 71, 72, 73, 74, 75, 76, 77, 78, 79, 80, 81, 82, 83, 84, 85, 86, 87, 88, 89, 90, 91, 92, 93, 94, 95, 96, 97, 98, 99, 100, 101, 102, 103, 104, 105, 106, 107, 108], [9, 11]) (fun x : List Cap × Nat × Nat => [(.s 3, .sl (x.1.map encCap)), (.o 9, deadV x.2.1), (.o 11, deadV x.2.2)]) (fun x => 60 - x.1.length)
    (fun x => ROk (cc c) x.1 ∧ ∃ n, D = rClosureN (cc c) n x.1 ∧ 60 - x.1.length ≤ n) (m, 0, 0) rfl ⟨hok, 60, by rw [← hD, rClosure, hm], by omega⟩ ?_ ?_
  · simp only [go_sem, seval]
  rintro c1 st1 hst1 ⟨l, p0, q0⟩ ⟨hok, n0, hDn, hn0⟩ ih0
  simp only at hok hDn hn0 ih0 ⊢
  have hl60 := hF.rlen hok
  have hObj : InObj c l := fun x hx => ((hok.drv x hx).form (cc c) hF.sp).2.1
  have hokN := rNext_ok (cc c) hok
  have hextN := rNext_ext (cc c) l
  generalize hN : rNext (cc c) l = N at hokN hextN
  have ihz := show id _ from ih0
  clear ih0
  simp only [go_sem, seval]
  refine loop_by ([9, 10, 11, 46, 47, 48, 49, 50, 51, 52, 53, 54, 55, 56, 57, 58, 59, 60, 61, 62, 63, 64, 65, 66, 67, 68, 69, 70, 71, 72, 73, 74, 75, 76, 77, 78, 79, 80, 81, 82, 83, 84, 85, 86, 87, 88, 89, 90, 91, 92, 93, 94, 95, 96, 97, 98, 99, 100, 101], [9, 11]) (fun z : Nat × List Cap × Nat × Nat => [(.s 8, .int .i64 (z.1 : Int)), (.s 7, .sl (z.2.1.map encCap)), (.o 9, deadV z.2.2.1), (.o 11, deadV z.2.2.2)]) (fun z => l.length - z.1)
    (fun z => z.1 ≤ l.length ∧ ROk (cc c) z.2.1 ∧ N = rNextGo (cc c) l z.2.1 (l.drop z.1)) (0, l, p0, q0) rfl ⟨Nat.zero_le _, hok, hN.symm⟩ ?_ ?_
  · simp only [go_sem, seval]
  rintro c2 st2 hst2 ⟨i, m, p, q⟩ ⟨hi, hokm, hf⟩ ih
  simp only at hi hokm hf ih ⊢
  simp only [go_sem, seval]
  refine ifI (fun hil => ?_) fun hil => ?_
  case refine_2 =>
    subst hst2
    have hNm : N = m := by rw [hf, List.drop_eq_nil_of_le (by omega)]; rfl
    subst hNm
    simp only [go_sem, seval, hil]
    refine Classical.byCases (fun hs : (N.length : Int) = (l.length : Int) => ?_) fun hs => ?_
    · have hst : ((N.length : Int) = (l.length : Int)) = True := eq_true hs
      have hDl : D = l := by rw [hDn, rClosureN_stop (cc c) (by rw [hN]; omega)]
      subst hst1
      simp only [go_sem, seval, hst, decide_true]
      rw [hDl]
    · have hst : ((N.length : Int) = (l.length : Int)) = False := eq_false hs
      obtain ⟨n2, hn2, hDn2, hb⟩ := rClosureN_go hF hok (by rw [hN]; omega) hn0
      rw [hN] at hDn2 hb
      have := hF.rlen hokN
      have := hextN.len
      simp only [go_sem, seval, hst, decide_false]
      refine ihz (N, p, q) _ ⟨hokN, n2, hDn.trans hDn2, hb⟩ (by simp only; omega) ?_
      simp only [go_sem, seval]
  have hi' : i < l.length := by omega
  have hdr := drop_nth hi'
  have hxm : nth l i ∈ l := nth_mem hi'
  have hm60 := hF.rlen hokm
  generalize hx : nth l i = x at hdr hxm
  have hxd : Drv (cc c) x := hok.drv x hxm
  have hxo := hObj x hxm
  have hq : (List.map encCap l)[i]? = some (encCap x) := by rw [at_map hi', hx]
  have hE : (cc c).chan x 128 = (decide (x.kind = 1) && spB c x.object && incB x.auth 128) := rfl
  have hsp := IsSpace_good c x.object hxo
  have hin := Includes_good x.auth 128
  have hU : c.users.length ≤ 3 := hF.J
  simp only [go_sem, seval, hil, hi', hx]
  refine Classical.byCases (fun h1 : x.kind = 1 => ?_) fun h1 => ?_
  case refine_2 =>
    have h1t := eq_false h1
    have hch : ¬ (cc c).chan x 128 = true := by rw [hE]; simp [h1]
    have hok1 : ROk (cc c) m := hokm
    have hf1 : N = rNextGo (cc c) l (rJobs (cc c) l x m ((List.range c.users.length).drop 0)) (l.drop (i + 1)) := by rw [hf, hdr, rNextGo, rStep, if_neg hch]; rfl
    simp only [go_sem, seval, h1t, decide_false]
    have ihh := show id _ from ih
    clear ih
    refine loop_by ([11, 77, 78, 79, 80, 81, 82, 83, 84, 85, 86, 87, 88, 89, 90, 91, 92, 93, 94, 95, 96, 97, 98, 99, 100, 101], [11]) (fun z : Nat × List Cap × Nat => [(.s 10, .int .i64 (z.1 : Int)), (.s 7, .sl (z.2.1.map encCap)), (.o 11, deadV z.2.2)]) (fun z => c.users.length - z.1)
      (fun z => z.1 ≤ c.users.length ∧ ROk (cc c) z.2.1 ∧ N = rNextGo (cc c) l (rJobs (cc c) l x z.2.1 ((List.range c.users.length).drop z.1)) (l.drop (i + 1))) (0, m, q) rfl ⟨Nat.zero_le _, hok1, hf1⟩ ?_ ?_
    · simp only [go_sem, seval]
    rintro c3 st3 hst3 ⟨j, n, q2⟩ ⟨hj, hok2, hf2⟩ ih2
    simp only at hj hok2 hf2 ih2 ⊢
    simp only [go_sem, seval]
    refine ifI (fun hjl => ?_) fun hjl => ?_
    case refine_2 =>
      subst hst3
      simp only [go_sem, seval, hjl]
      refine ihh (i + 1, n, p + 1, q2) _ ⟨by simp only; omega, hok2, by rw [hf2, List.drop_eq_nil_of_le (by simp; omega)]; rfl⟩ (by simp only; omega) ?_
      simp only [go_sem, seval, wrap_succ (show i < 9223372036854775807 by omega)]
    have hjj : j < c.users.length := by omega
    have hn60 := hF.rlen hok2
    have hps := Passes_good c l x.job (j : Int) (by omega) hObj
    have hok3 := rJobs_ok (cc c) hok.drv hxd (js := [j]) hok2 (fun k hk => by rw [List.mem_singleton] at hk; subst hk; exact hjj)
    have hone : rJobs (cc c) l x n [j] = if (j : Int) ≠ x.job ∧ passes (cc c) l x.job (j : Int) = true then put n ⟨(j : Int), x.object, x.kind, x.auth⟩ else n := rfl
    rw [hone] at hok3
    simp only [go_sem, seval, hjl]
    refine Classical.byCases (fun hne : (j : Int) = x.job => ?_) fun hne => ?_
    · have hnt : ((j : Int) = x.job) = True := eq_true hne
      simp only [go_sem, seval, hnt, not_true_eq_false, decide_false]
      refine ih2 (j + 1, n, q2) _ ⟨by simp only; omega, hok2, ?_⟩ (by simp only; omega) ?_
      · rw [hf2, drop_range hjj, rJobs, if_neg (fun q => q.1 hne)]
      simp only [go_sem, seval, wrap_succ (show j < 9223372036854775807 by omega)]
    have hnt : ((j : Int) = x.job) = False := eq_false hne
    cases hp : passes (cc c) l x.job (j : Int) with
    | false =>
      rw [hp] at hps
      simp only [go_sem, seval, hnt, not_false_eq_true, decide_true]
      refine call_of (hps) ?_
      simp only [go_sem, seval]
      refine ih2 (j + 1, n, q2) _ ⟨by simp only; omega, hok2, ?_⟩ (by simp only; omega) ?_
      · rw [hf2, drop_range hjj, rJobs, if_neg (fun q => by rw [hp] at q; exact absurd q.2 (by decide))]
      simp only [go_sem, seval, wrap_succ (show j < 9223372036854775807 by omega)]
    | true =>
      rw [hp] at hps
      have hput := put_good n ⟨(j : Int), x.object, x.kind, x.auth⟩ (by omega)
      rw [if_pos ⟨hne, hp⟩] at hok3
      have hstep : N = rNextGo (cc c) l (rJobs (cc c) l x (put n ⟨(j : Int), x.object, x.kind, x.auth⟩) ((List.range c.users.length).drop (j + 1))) (l.drop (i + 1)) := by
        rw [hf2, drop_range hjj, rJobs, if_pos ⟨hne, hp⟩]
      generalize put n ⟨(j : Int), x.object, x.kind, x.auth⟩ = n' at hput hok3 hstep
      simp only [go_sem, seval, hnt, not_false_eq_true, decide_true]
      refine call_of (hps) ?_
      simp only [go_sem, seval]
      refine call_of (hput) ?_
      simp only [go_sem, seval]
      refine ih2 (j + 1, n', q2 + 1) _ ⟨by simp only; omega, hok3, hstep⟩ (by simp only; omega) ?_
      simp only [go_sem, seval, wrap_succ (show j < 9223372036854775807 by omega)]
  have h1t := eq_true h1
  cases h2 : spB c x.object with
  | false =>
    rw [h2] at hsp
    have hch : ¬ (cc c).chan x 128 = true := by rw [hE]; simp [h1, h2]
    have hok1 : ROk (cc c) m := hokm
    have hf1 : N = rNextGo (cc c) l (rJobs (cc c) l x m ((List.range c.users.length).drop 0)) (l.drop (i + 1)) := by rw [hf, hdr, rNextGo, rStep, if_neg hch]; rfl
    simp only [go_sem, seval, h1t, decide_true]
    refine call_of (hsp) ?_
    simp only [go_sem, seval]
    have ihh := show id _ from ih
    clear ih
    refine loop_by ([11, 77, 78, 79, 80, 81, 82, 83, 84, 85, 86, 87, 88, 89, 90, 91, 92, 93, 94, 95, 96, 97, 98, 99, 100, 101], [11]) (fun z : Nat × List Cap × Nat => [(.s 10, .int .i64 (z.1 : Int)), (.s 7, .sl (z.2.1.map encCap)), (.o 11, deadV z.2.2)]) (fun z => c.users.length - z.1)
      (fun z => z.1 ≤ c.users.length ∧ ROk (cc c) z.2.1 ∧ N = rNextGo (cc c) l (rJobs (cc c) l x z.2.1 ((List.range c.users.length).drop z.1)) (l.drop (i + 1))) (0, m, q) rfl ⟨Nat.zero_le _, hok1, hf1⟩ ?_ ?_
    · simp only [go_sem, seval]
    rintro c3 st3 hst3 ⟨j, n, q2⟩ ⟨hj, hok2, hf2⟩ ih2
    simp only at hj hok2 hf2 ih2 ⊢
    simp only [go_sem, seval]
    refine ifI (fun hjl => ?_) fun hjl => ?_
    case refine_2 =>
      subst hst3
      simp only [go_sem, seval, hjl]
      refine ihh (i + 1, n, p + 1, q2) _ ⟨by simp only; omega, hok2, by rw [hf2, List.drop_eq_nil_of_le (by simp; omega)]; rfl⟩ (by simp only; omega) ?_
      simp only [go_sem, seval, wrap_succ (show i < 9223372036854775807 by omega)]
    have hjj : j < c.users.length := by omega
    have hn60 := hF.rlen hok2
    have hps := Passes_good c l x.job (j : Int) (by omega) hObj
    have hok3 := rJobs_ok (cc c) hok.drv hxd (js := [j]) hok2 (fun k hk => by rw [List.mem_singleton] at hk; subst hk; exact hjj)
    have hone : rJobs (cc c) l x n [j] = if (j : Int) ≠ x.job ∧ passes (cc c) l x.job (j : Int) = true then put n ⟨(j : Int), x.object, x.kind, x.auth⟩ else n := rfl
    rw [hone] at hok3
    simp only [go_sem, seval, hjl]
    refine Classical.byCases (fun hne : (j : Int) = x.job => ?_) fun hne => ?_
    · have hnt : ((j : Int) = x.job) = True := eq_true hne
      simp only [go_sem, seval, hnt, not_true_eq_false, decide_false]
      refine ih2 (j + 1, n, q2) _ ⟨by simp only; omega, hok2, ?_⟩ (by simp only; omega) ?_
      · rw [hf2, drop_range hjj, rJobs, if_neg (fun q => q.1 hne)]
      simp only [go_sem, seval, wrap_succ (show j < 9223372036854775807 by omega)]
    have hnt : ((j : Int) = x.job) = False := eq_false hne
    cases hp : passes (cc c) l x.job (j : Int) with
    | false =>
      rw [hp] at hps
      simp only [go_sem, seval, hnt, not_false_eq_true, decide_true]
      refine call_of (hps) ?_
      simp only [go_sem, seval]
      refine ih2 (j + 1, n, q2) _ ⟨by simp only; omega, hok2, ?_⟩ (by simp only; omega) ?_
      · rw [hf2, drop_range hjj, rJobs, if_neg (fun q => by rw [hp] at q; exact absurd q.2 (by decide))]
      simp only [go_sem, seval, wrap_succ (show j < 9223372036854775807 by omega)]
    | true =>
      rw [hp] at hps
      have hput := put_good n ⟨(j : Int), x.object, x.kind, x.auth⟩ (by omega)
      rw [if_pos ⟨hne, hp⟩] at hok3
      have hstep : N = rNextGo (cc c) l (rJobs (cc c) l x (put n ⟨(j : Int), x.object, x.kind, x.auth⟩) ((List.range c.users.length).drop (j + 1))) (l.drop (i + 1)) := by
        rw [hf2, drop_range hjj, rJobs, if_pos ⟨hne, hp⟩]
      generalize put n ⟨(j : Int), x.object, x.kind, x.auth⟩ = n' at hput hok3 hstep
      simp only [go_sem, seval, hnt, not_false_eq_true, decide_true]
      refine call_of (hps) ?_
      simp only [go_sem, seval]
      refine call_of (hput) ?_
      simp only [go_sem, seval]
      refine ih2 (j + 1, n', q2 + 1) _ ⟨by simp only; omega, hok3, hstep⟩ (by simp only; omega) ?_
      simp only [go_sem, seval, wrap_succ (show j < 9223372036854775807 by omega)]
  | true =>
    rw [h2] at hsp
    cases h3 : incB x.auth 128 with
    | false =>
      rw [h3] at hin
      have hch : ¬ (cc c).chan x 128 = true := by rw [hE]; simp [h1, h2, h3]
      have hok1 : ROk (cc c) m := hokm
      have hf1 : N = rNextGo (cc c) l (rJobs (cc c) l x m ((List.range c.users.length).drop 0)) (l.drop (i + 1)) := by rw [hf, hdr, rNextGo, rStep, if_neg hch]; rfl
      simp only [go_sem, seval, h1t, decide_true]
      refine call_of (hsp) ?_
      simp only [go_sem, seval]
      refine call_of (hin) ?_
      simp only [go_sem, seval]
      have ihh := show id _ from ih
      clear ih
      refine loop_by ([11, 77, 78, 79, 80, 81, 82, 83, 84, 85, 86, 87, 88, 89, 90, 91, 92, 93, 94, 95, 96, 97, 98, 99, 100, 101], [11]) (fun z : Nat × List Cap × Nat => [(.s 10, .int .i64 (z.1 : Int)), (.s 7, .sl (z.2.1.map encCap)), (.o 11, deadV z.2.2)]) (fun z => c.users.length - z.1)
        (fun z => z.1 ≤ c.users.length ∧ ROk (cc c) z.2.1 ∧ N = rNextGo (cc c) l (rJobs (cc c) l x z.2.1 ((List.range c.users.length).drop z.1)) (l.drop (i + 1))) (0, m, q) rfl ⟨Nat.zero_le _, hok1, hf1⟩ ?_ ?_
      · simp only [go_sem, seval]
      rintro c3 st3 hst3 ⟨j, n, q2⟩ ⟨hj, hok2, hf2⟩ ih2
      simp only at hj hok2 hf2 ih2 ⊢
      simp only [go_sem, seval]
      refine ifI (fun hjl => ?_) fun hjl => ?_
      case refine_2 =>
        subst hst3
        simp only [go_sem, seval, hjl]
        refine ihh (i + 1, n, p + 1, q2) _ ⟨by simp only; omega, hok2, by rw [hf2, List.drop_eq_nil_of_le (by simp; omega)]; rfl⟩ (by simp only; omega) ?_
        simp only [go_sem, seval, wrap_succ (show i < 9223372036854775807 by omega)]
      have hjj : j < c.users.length := by omega
      have hn60 := hF.rlen hok2
      have hps := Passes_good c l x.job (j : Int) (by omega) hObj
      have hok3 := rJobs_ok (cc c) hok.drv hxd (js := [j]) hok2 (fun k hk => by rw [List.mem_singleton] at hk; subst hk; exact hjj)
      have hone : rJobs (cc c) l x n [j] = if (j : Int) ≠ x.job ∧ passes (cc c) l x.job (j : Int) = true then put n ⟨(j : Int), x.object, x.kind, x.auth⟩ else n := rfl
      rw [hone] at hok3
      simp only [go_sem, seval, hjl]
      refine Classical.byCases (fun hne : (j : Int) = x.job => ?_) fun hne => ?_
      · have hnt : ((j : Int) = x.job) = True := eq_true hne
        simp only [go_sem, seval, hnt, not_true_eq_false, decide_false]
        refine ih2 (j + 1, n, q2) _ ⟨by simp only; omega, hok2, ?_⟩ (by simp only; omega) ?_
        · rw [hf2, drop_range hjj, rJobs, if_neg (fun q => q.1 hne)]
        simp only [go_sem, seval, wrap_succ (show j < 9223372036854775807 by omega)]
      have hnt : ((j : Int) = x.job) = False := eq_false hne
      cases hp : passes (cc c) l x.job (j : Int) with
      | false =>
        rw [hp] at hps
        simp only [go_sem, seval, hnt, not_false_eq_true, decide_true]
        refine call_of (hps) ?_
        simp only [go_sem, seval]
        refine ih2 (j + 1, n, q2) _ ⟨by simp only; omega, hok2, ?_⟩ (by simp only; omega) ?_
        · rw [hf2, drop_range hjj, rJobs, if_neg (fun q => by rw [hp] at q; exact absurd q.2 (by decide))]
        simp only [go_sem, seval, wrap_succ (show j < 9223372036854775807 by omega)]
      | true =>
        rw [hp] at hps
        have hput := put_good n ⟨(j : Int), x.object, x.kind, x.auth⟩ (by omega)
        rw [if_pos ⟨hne, hp⟩] at hok3
        have hstep : N = rNextGo (cc c) l (rJobs (cc c) l x (put n ⟨(j : Int), x.object, x.kind, x.auth⟩) ((List.range c.users.length).drop (j + 1))) (l.drop (i + 1)) := by
          rw [hf2, drop_range hjj, rJobs, if_pos ⟨hne, hp⟩]
        generalize put n ⟨(j : Int), x.object, x.kind, x.auth⟩ = n' at hput hok3 hstep
        simp only [go_sem, seval, hnt, not_false_eq_true, decide_true]
        refine call_of (hps) ?_
        simp only [go_sem, seval]
        refine call_of (hput) ?_
        simp only [go_sem, seval]
        refine ih2 (j + 1, n', q2 + 1) _ ⟨by simp only; omega, hok3, hstep⟩ (by simp only; omega) ?_
        simp only [go_sem, seval, wrap_succ (show j < 9223372036854775807 by omega)]
    | true =>
      rw [h3] at hin
      have hch : (cc c).chan x 128 = true := by rw [hE]; simp [h1, h2, h3]
      have hput := put_good m ⟨x.job, x.object, 0, 0⟩ (by omega)
      have hok1 : ROk (cc c) (put m ⟨x.job, x.object, 0, 0⟩) := hokm.put (cc c) (Drv.addr x hxd hch)
      have hf1 : N = rNextGo (cc c) l (rJobs (cc c) l x (put m ⟨x.job, x.object, 0, 0⟩) ((List.range c.users.length).drop 0)) (l.drop (i + 1)) := by rw [hf, hdr, rNextGo, rStep, if_pos hch]; rfl
      generalize put m ⟨x.job, x.object, 0, 0⟩ = m1 at hput hok1 hf1
      simp only [go_sem, seval, h1t, decide_true]
      refine call_of (hsp) ?_
      simp only [go_sem, seval]
      refine call_of (hin) ?_
      simp only [go_sem, seval]
      refine call_of (hput) ?_
      simp only [go_sem, seval]
      have ihh := show id _ from ih
      clear ih
      refine loop_by ([11, 77, 78, 79, 80, 81, 82, 83, 84, 85, 86, 87, 88, 89, 90, 91, 92, 93, 94, 95, 96, 97, 98, 99, 100, 101], [11]) (fun z : Nat × List Cap × Nat => [(.s 10, .int .i64 (z.1 : Int)), (.s 7, .sl (z.2.1.map encCap)), (.o 11, deadV z.2.2)]) (fun z => c.users.length - z.1)
        (fun z => z.1 ≤ c.users.length ∧ ROk (cc c) z.2.1 ∧ N = rNextGo (cc c) l (rJobs (cc c) l x z.2.1 ((List.range c.users.length).drop z.1)) (l.drop (i + 1))) (0, m1, q) rfl ⟨Nat.zero_le _, hok1, hf1⟩ ?_ ?_
      · simp only [go_sem, seval]
      rintro c3 st3 hst3 ⟨j, n, q2⟩ ⟨hj, hok2, hf2⟩ ih2
      simp only at hj hok2 hf2 ih2 ⊢
      simp only [go_sem, seval]
      refine ifI (fun hjl => ?_) fun hjl => ?_
      case refine_2 =>
        subst hst3
        simp only [go_sem, seval, hjl]
        refine ihh (i + 1, n, p + 1, q2) _ ⟨by simp only; omega, hok2, by rw [hf2, List.drop_eq_nil_of_le (by simp; omega)]; rfl⟩ (by simp only; omega) ?_
        simp only [go_sem, seval, wrap_succ (show i < 9223372036854775807 by omega)]
      have hjj : j < c.users.length := by omega
      have hn60 := hF.rlen hok2
      have hps := Passes_good c l x.job (j : Int) (by omega) hObj
      have hok3 := rJobs_ok (cc c) hok.drv hxd (js := [j]) hok2 (fun k hk => by rw [List.mem_singleton] at hk; subst hk; exact hjj)
      have hone : rJobs (cc c) l x n [j] = if (j : Int) ≠ x.job ∧ passes (cc c) l x.job (j : Int) = true then put n ⟨(j : Int), x.object, x.kind, x.auth⟩ else n := rfl
      rw [hone] at hok3
      simp only [go_sem, seval, hjl]
      refine Classical.byCases (fun hne : (j : Int) = x.job => ?_) fun hne => ?_
      · have hnt : ((j : Int) = x.job) = True := eq_true hne
        simp only [go_sem, seval, hnt, not_true_eq_false, decide_false]
        refine ih2 (j + 1, n, q2) _ ⟨by simp only; omega, hok2, ?_⟩ (by simp only; omega) ?_
        · rw [hf2, drop_range hjj, rJobs, if_neg (fun q => q.1 hne)]
        simp only [go_sem, seval, wrap_succ (show j < 9223372036854775807 by omega)]
      have hnt : ((j : Int) = x.job) = False := eq_false hne
      cases hp : passes (cc c) l x.job (j : Int) with
      | false =>
        rw [hp] at hps
        simp only [go_sem, seval, hnt, not_false_eq_true, decide_true]
        refine call_of (hps) ?_
        simp only [go_sem, seval]
        refine ih2 (j + 1, n, q2) _ ⟨by simp only; omega, hok2, ?_⟩ (by simp only; omega) ?_
        · rw [hf2, drop_range hjj, rJobs, if_neg (fun q => by rw [hp] at q; exact absurd q.2 (by decide))]
        simp only [go_sem, seval, wrap_succ (show j < 9223372036854775807 by omega)]
      | true =>
        rw [hp] at hps
        have hput := put_good n ⟨(j : Int), x.object, x.kind, x.auth⟩ (by omega)
        rw [if_pos ⟨hne, hp⟩] at hok3
        have hstep : N = rNextGo (cc c) l (rJobs (cc c) l x (put n ⟨(j : Int), x.object, x.kind, x.auth⟩) ((List.range c.users.length).drop (j + 1))) (l.drop (i + 1)) := by
          rw [hf2, drop_range hjj, rJobs, if_pos ⟨hne, hp⟩]
        generalize put n ⟨(j : Int), x.object, x.kind, x.auth⟩ = n' at hput hok3 hstep
        simp only [go_sem, seval, hnt, not_false_eq_true, decide_true]
        refine call_of (hps) ?_
        simp only [go_sem, seval]
        refine call_of (hput) ?_
        simp only [go_sem, seval]
        refine ih2 (j + 1, n', q2 + 1) _ ⟨by simp only; omega, hok3, hstep⟩ (by simp only; omega) ?_
        simp only [go_sem, seval, wrap_succ (show j < 9223372036854775807 by omega)]
end Go.Proofs.YtbhgehhmjpipiaaGreat.C12
