/- Chapter 12: all derivations. -/
import Derived.Test.YtbhgehhmjpipiaaGreatE6
namespace Go.Proofs.YtbhgehhmjpipiaaGreat.C12
open Go Go.Proofs Go.Proofs.YtbhgehhmjpipiaaGreat.Ab Go.Proofs.YtbhgehhmjpipiaaGreat.C10
set_option maxRecDepth 100000
set_option linter.unusedSimpArgs false
set_option linter.unusedVariables false
attribute [local congr] ite_ctx
theorem Right.cfit {c : Case} (h : Right c) : (cc c).Fit := ⟨h.J.2, h.O, fun o ho => spB_rng ho⟩
set_option maxHeartbeats 16000000 in
theorem derive_good (c : Case) (h : Right c) : Ans Tryz.prog 40 [.agg (encCase c)] (.sl ((derive (cc c)).map encDer)) := by
  have hF := h.cfit
  have hJ := h.J
  have hO := h.O
  generalize hD : derive (cc c) = D
  refine good_run [(3000002, [], [100000000000000000000009, 501908059043]), (13, [38, 39], []), (6, [5, 6, 21, 22, 23, 24, 25, 26, 27, 28, 29, 30, 31, 32, 33, 34, 35, 36], []), (3, [4, 5, 6, 14, 15, 16, 17, 18, 19, 20, 21, 22, 23, 24, 25, 26, 27, 28, 29, 30, 31, 32, 33, 34, 35, 36, 37], [])] mixed Tryz.func40 rfl Tryz.ntmps40 (rs := [.tmp 2]) rfl (by decide +kernel) (by kernel_rfl) rfl ?_
  rw [startE_eq 44 _ _ _ rfl rfl]
  simp only [go_sem, seval]
  refine loop_by ([4, 5, 6, 14, 15, 16, 17, 18, 19, 20, 21, 22, 23, 24, 25, 26, 27, 28, 29, 30, 31, 32, 33, 34, 35, 36, 37], []) (fun x : Nat × List Der => [(.s 13, .int .i64 (x.1 : Int)), (.o 9, dObj c 43 (x.2.length + 1)), (.o 43, .obj (x.2.length + 1) 59 8 false true (x.2.map encDer))]) (fun x => c.users.length - x.1)
    (fun x => x.1 ≤ c.users.length ∧ DOk (cc c) x.2 ∧ seeds (cc c) = seedsGo (cc c) x.2 ((List.range c.users.length).drop x.1)) (0, []) rfl ⟨Nat.zero_le _, .nil, rfl⟩ ?_ ?_
  · simp only [go_sem, seval]
  rintro c' st' hst ⟨j, m⟩ ⟨hj, hok, hf⟩ ih
  simp only at hj hok hf ih ⊢
  simp only [go_sem, seval]
  refine ifI (fun hlt => ?_) fun hlt => ?_
  · have hjj : j < c.users.length := by omega
    simp only [go_sem, seval, hlt]
    have ihh := show id _ from ih
    clear ih
    refine loop_by ([5, 6, 21, 22, 23, 24, 25, 26, 27, 28, 29, 30, 31, 32, 33, 34, 35, 36], []) (fun z : Nat × List Der => [(.s 20, .int .i64 (z.1 : Int)), (.o 9, dObj c 43 (z.2.length + 1)), (.o 43, .obj (z.2.length + 1) 59 8 false true (z.2.map encDer))]) (fun z => c.sec.objects.length - z.1)
      (fun z => z.1 ≤ c.sec.objects.length ∧ DOk (cc c) z.2 ∧ seeds (cc c) = seedsGo (cc c) (seedJ (cc c) z.2 j ((List.range c.sec.objects.length).drop z.1)) ((List.range c.users.length).drop (j + 1))) (0, m) rfl ⟨Nat.zero_le _, hok, by rw [hf, drop_range hjj]; rfl⟩ ?_ ?_
    · simp only [go_sem, seval]
    rintro c2 st2 hst2 ⟨k, n⟩ ⟨hk, hok2, hf2⟩ ih2
    simp only at hk hok2 hf2 ih2 ⊢
    simp only [go_sem, seval]
    refine ifI (fun hkl => ?_) fun hkl => ?_
    case refine_2 =>
      subst hst2
      simp only [go_sem, seval, hkl]
      refine ihh (j + 1, n) _ ⟨by simp only; omega, hok2, by rw [hf2, List.drop_eq_nil_of_le (by simp; omega)]; rfl⟩ (by simp only; omega) ?_
      simp only [go_sem, seval, wrap_succ (show j < 9223372036854775807 by omega)]
    have hkk : k < c.sec.objects.length := by omega
    have hn60 := hF.len hok2
    simp only [go_sem, seval, hkl]
    refine call_of (userAuthority_good h hjj hkk) ?_
    simp only [go_sem, seval]
    refine Classical.byCases (fun ha0 : auI c j k = 0 => ?_) fun ha0 => ?_
    · have hat : (auI c j k = 0) = True := eq_true ha0
      simp only [go_sem, seval, hat, not_true_eq_false, decide_false]
      refine ih2 (k + 1, n) _ ⟨by simp only; omega, hok2, ?_⟩ (by simp only; omega) ?_
      · rw [hf2, drop_range hkk, seedJ, if_pos (show (cc c).au j k = 0 from ha0)]
      simp only [go_sem, seval, wrap_succ (show k < 9223372036854775807 by omega)]
    have hat : (auI c j k = 0) = False := eq_false ha0
    have hstep : seeds (cc c) = seedsGo (cc c) (seedJ (cc c) (addD n ⟨⟨(j : Int), (k : Int), 1, auI c j k⟩, 0, 0, 0, 0⟩) j ((List.range c.sec.objects.length).drop (k + 1))) ((List.range c.users.length).drop (j + 1)) := by
      rw [hf2, drop_range hkk, seedJ, if_neg (show ¬ (cc c).au j k = 0 from ha0)]; rfl
    have hok3 := seedJ_ok (cc c) (j := j) hjj (ks := [k]) hok2 (fun i hi => by simp at hi; subst hi; exact hkk)
    simp only [seedJ, if_neg (show ¬ (cc c).au j k = 0 from ha0)] at hok3
    replace hok3 : DOk (cc c) (addD n ⟨⟨(j : Int), (k : Int), 1, auI c j k⟩, 0, 0, 0, 0⟩) := hok3
    simp only [go_sem, seval, hat, not_false_eq_true, decide_true]
    generalize hy : (⟨⟨(j : Int), (k : Int), 1, auI c j k⟩, 0, 0, 0, 0⟩ : Der) = y at hstep hok3
    have hye : encDer y = [.int .i64 (j : Int), .int .i64 (k : Int), .int .i64 1, .int .i64 (auI c j k), .int .i64 0, .int .i64 0, .int .i64 0, .int .i64 0] := by rw [← hy]; rfl
    cases hh : has n y.cap with
    | true =>
      have had : addD n y = n := by rw [addD, if_pos hh]
      rw [had] at hstep
      have ha := add_old c n y (by omega) hh
      rw [hye] at ha
      refine callM_of [9, 43] [9, 43] (ha) ⟨by simp [renA, ren1, invM, posOf, verOf, AV.cellP, Env.go], by simp [renObj, ren1, invM, posOf, verOf, AV.cellP, Env.go, dObj], rfl, by simp, by simp, by simp, by simp, rfl, rfl, rfl, onodup_of (l := [21, 22]) rfl (by decide)⟩ ?_
      simp only [go_sem, seval]
      refine ih2 (k + 1, n) _ ⟨by simp only; omega, hok2, hstep⟩ (by simp only; omega) ?_
      simp only [go_sem, seval, wrap_succ (show k < 9223372036854775807 by omega)]
    | false =>
      have had : addD n y = n ++ [y] := by rw [addD, if_neg (by rw [hh]; decide)]
      have hlen : (n ++ [y]).length = n.length + 1 := by simp
      rw [had] at hstep hok3
      have ha := add_new c n y (by omega) hh
      rw [hye] at ha
      generalize n ++ [y] = n' at ha hstep hok3 hlen
      refine callM_of [9, 43] [9, 43] (ha) ⟨by simp [renA, ren1, invM, posOf, verOf, AV.cellP, Env.go], by simp [renObj, ren1, invM, posOf, verOf, AV.cellP, Env.go, dObj], rfl, by simp, by simp, by simp, by simp, rfl, rfl, rfl, onodup_of (l := [21, 18]) rfl (by decide)⟩ ?_
      simp only [go_sem, seval]
      refine ih2 (k + 1, n') _ ⟨by simp only; omega, hok3, hstep⟩ (by simp only; omega) ?_
      simp only [go_sem, seval, wrap_succ (show k < 9223372036854775807 by omega), hlen]
  have hm : seeds (cc c) = m := by rw [hf, List.drop_eq_nil_of_le (by simp; omega)]; rfl
  clear ih
  subst hst
  simp only [go_sem, seval, hlt]
  refine loop_by ([38, 39], []) (fun x : List Der × Nat => [(.o 9, dObj c 43 (x.2 + 1)), (.o 43, .obj (x.2 + 1) 59 8 false true (x.1.map encDer))]) (fun x => 60 - x.1.length)
    (fun x => DOk (cc c) x.1 ∧ ∃ n, D = deriveN (cc c) n x.1 ∧ 60 - x.1.length ≤ n) (m, m.length) rfl ⟨hok, 60, by rw [← hD, derive, hm], by omega⟩ ?_ ?_
  · simp only [go_sem, seval]
  rintro c2 st2 hst2 ⟨l, v⟩ ⟨hok2, n, hDn, hn⟩ ih2
  simp only at hok2 hDn hn ih2 ⊢
  have hrd := round_good c hF l hok2
  have hpre := pre_len (round_pre (cc c) l)
  simp only [go_sem, seval]
  refine Classical.byCases (fun hs : (round (cc c) l).length = l.length => ?_) fun hs => ?_
  · have hDl : D = l := by rw [hDn, deriveN_stop (cc c) hs]
    rw [hs, pre_eq (round_pre (cc c) l) hs, Nat.sub_self] at hrd
    replace hrd : AnsM Tryz.prog 78 75 [dObj c 76 1, .obj 1 59 8 false true (l.map encDer)] [.loc 75 1 0 0] (.bool false) [(75, dObj c 76 1), (76, .obj 1 59 8 false true (l.map encDer))] := hrd
    subst hst2
    refine callM_of [9, 43] [9, 43] (hrd) ⟨by simp [renA, ren1, invM, posOf, verOf, AV.cellP, Env.go], by simp [renObj, ren1, invM, posOf, verOf, AV.cellP, Env.go, dObj], rfl, by simp, by simp, by simp, by simp, rfl, rfl, rfl, onodup_of (l := [75, 76]) rfl (by decide)⟩ ?_
    simp only [go_sem, seval]
    rw [hDl]
  · obtain ⟨n2, hn2, hDn2, hb⟩ := deriveN_go hF hok2 hs hn
    have hok3 := round_ok (cc c) hok2
    have hg : decide (0 < (round (cc c) l).length - l.length) = true := decide_eq_true (by omega)
    have hlt60 := hF.len hok3
    obtain ⟨w, hw⟩ : ∃ w, (round (cc c) l).length - l.length = w + 1 := ⟨(round (cc c) l).length - l.length - 1, by omega⟩
    have hw1 : (w + 1 + 1 = 1) = False := eq_false (by omega)
    rw [hg, hw] at hrd
    have hms : 60 - (round (cc c) l).length < 60 - l.length := by omega
    rw [hDn2] at hDn
    generalize round (cc c) l = l' at hrd hDn hb hok3 hms
    refine callM_of [9, 43] [9, 43] (hrd) ⟨by simp [renA, ren1, invM, posOf, verOf, AV.cellP, Env.go], by simp [renObj, ren1, invM, posOf, verOf, AV.cellP, Env.go, dObj], rfl, by simp, by simp, by simp, by simp, rfl, rfl, rfl, onodup_of (l := [75, 76]) rfl (by decide)⟩ ?_
    simp only [go_sem, seval, hw1]
    refine ih2 (l', v + 1) _ ⟨hok3, n2, hDn, hb⟩ hms ?_
    simp only [go_sem, seval, hw1]
end Go.Proofs.YtbhgehhmjpipiaaGreat.C12
