/- Chapter 12: a round of derivations. -/
import Derived.Test.YtbhgehhmjpipiaaGreatE5
namespace Go.Proofs.YtbhgehhmjpipiaaGreat.C12
open Go Go.Proofs Go.Proofs.YtbhgehhmjpipiaaGreat.Ab Go.Proofs.YtbhgehhmjpipiaaGreat.C10
set_option maxRecDepth 100000
set_option linter.unusedSimpArgs false
set_option linter.unusedVariables false
attribute [local congr] ite_ctx
theorem passGo_one {C : CC} {l : List Der} {x : Cap} {i j : Nat} : ∀ ss : List Nat, passGo C l x i j ss = l ∨ ∃ y, passGo C l x i j ss = l ++ [y]
  | [] => .inl rfl
  | s :: ss => by
    unfold passGo; split
    · unfold addD; split
      · exact .inl rfl
      · exact .inr ⟨_, rfl⟩
    · exact passGo_one ss
theorem pass_one (C : CC) (l : List Der) (i j : Nat) : pass C l i j = l ∨ ∃ y, pass C l i j = l ++ [y] := passGo_one _
theorem drop_range {n i : Nat} (h : i < n) : (List.range n).drop i = i :: (List.range n).drop (i + 1) := by
  rw [List.drop_eq_getElem_cons (by simpa using h), List.getElem_range]
/-- What a round comes to: the list, the number of the own row. -/
structure RInv (C : CC) (l0 m : List Der) (k : Nat) : Prop where
  ok : DOk C m
  pre : l0 <+: m
  len : m.length = l0.length + k
theorem RInv.snoc {C : CC} {l0 m m' : List Der} {k : Nat} (h : RInv C l0 m k) (hm : m <+: m') (ho : DOk C m') {y : Der} (he : m' = m ++ [y]) : RInv C l0 m' (k + 1) :=
  ⟨ho, h.pre.trans hm, by rw [he, List.length_append, h.len]; rfl⟩
set_option maxHeartbeats 16000000 in
theorem round_good (c : Case) (hF : (cc c).Fit) (l0 : List Der) (h0 : DOk (cc c) l0) :
    AnsM Tryz.prog 78 75 [dObj c 76 1, .obj 1 59 8 false true (l0.map encDer)] [.loc 75 1 0 0] (.bool (decide (0 < (round (cc c) l0).length - l0.length)))
      [(75, dObj c 76 ((round (cc c) l0).length - l0.length + 1)), (76, .obj ((round (cc c) l0).length - l0.length + 1) 59 8 false true ((round (cc c) l0).map encDer))] := by
  have hO : c.sec.objects.length ≤ 5 := hF.O
  have hR : round (cc c) l0 = roundGo (cc c) l0 ((List.range l0.length).drop 0) := rfl
  generalize round (cc c) l0 = R at hR
  refine goodM_run [(9, [6, 59, 60, 61, 62, 63, 64, 65, 66, 67, 68, 69, 70, 71, 72], []), (3, [4, 5, 6, 13, 14, 15, 16, 17, 18, 19, 20, 21, 22, 23, 24, 25, 26, 27, 28, 29, 30, 31, 32, 33, 34, 35, 36, 37, 38, 39, 40, 41, 42, 43, 44, 45, 46, 47, 48, 49, 50, 51, 52, 53, 54, 55, 56, 57, 58, 59, 60, 61, 62, 63, 64, 65, 66, 67, 68, 69, 70, 71, 72, 73], [5])] mixed Tryz.func78 rfl Tryz.ntmps78 (rs := [.tmp 2]) rfl (show wfCode 77 _ = true by decide +kernel) (by kernel_rfl) ?_
  rw [startM_eq 75 _ _ _ _ rfl rfl]
  simp only [go_sem, seval]
  refine loop_by ([4, 5, 6, 13, 14, 15, 16, 17, 18, 19, 20, 21, 22, 23, 24, 25, 26, 27, 28, 29, 30, 31, 32, 33, 34, 35, 36, 37, 38, 39, 40, 41, 42, 43, 44, 45, 46, 47, 48, 49, 50, 51, 52, 53, 54, 55, 56, 57, 58, 59, 60, 61, 62, 63, 64, 65, 66, 67, 68, 69, 70, 71, 72, 73], [5]) (fun x : Nat × List Der × Nat => [(.s 12, .int .i64 (x.1 : Int)), (.s 3, .bool (decide (0 < x.2.2))), (.o 5, deadV x.1), (.o 75, dObj c 76 (x.2.2 + 1)), (.o 76, .obj (x.2.2 + 1) 59 8 false true (x.2.1.map encDer))]) (fun x => l0.length - x.1)
    (fun x => x.1 ≤ l0.length ∧ RInv (cc c) l0 x.2.1 x.2.2 ∧ R = roundGo (cc c) x.2.1 ((List.range l0.length).drop x.1)) (0, l0, 0) rfl ⟨Nat.zero_le _, ⟨h0, List.prefix_refl _, rfl⟩, hR⟩ ?_ ?_
  · simp only [go_sem, seval]
  rintro c' st' hst ⟨i, m, k⟩ ⟨hi, hI, hf⟩ ih
  simp only at hi hI hf ih ⊢
  simp only [go_sem, seval]
  refine ifI (fun hlt => ?_) fun hlt => ?_
  case refine_2 =>
    subst hst
    have hRm : R = m := by rw [hf, List.drop_eq_nil_of_le (by simp; omega)]; rfl
    have hk : k = R.length - l0.length := by rw [hRm, hI.len]; omega
    rw [← hk, hRm]
    simp only [go_sem, seval, hlt]
    simp
  have hRR : R = roundGo (cc c) (stepD (cc c) m i) ((List.range l0.length).drop (i + 1)) := by
    rw [hf, drop_range (show i < l0.length by omega)]; rfl
  have hU : c.users.length ≤ 3 := hF.J
  have hm60 := hF.len hI.ok
  have him : i < m.length := by have := hI.len; omega
  have him2 : (i : Int) < (m.length : Int) := by omega
  generalize hx : nth m i = x
  have hgm : m.getD i default = x := hx
  have hq : (List.map encDer m)[i]? = some (encDer x) := by rw [at_map him, hx]
  have hst2 : stepD (cc c) m i = jobsD (cc c) (addrD (cc c) m i) i ((List.range c.users.length).drop 0) := rfl
  rw [hst2] at hRR
  have hsp := isSpace_good c x.cap.object (by omega)
  have hin := pinc_good x.cap.auth 128
  simp only [go_sem, seval, hlt, him, him2, hq, Option.map_some]
  refine Classical.byCases (fun hk1' : x.cap.kind = 1 => ?_) fun hk1' => ?_
  case refine_2 =>
    have hkf : (x.cap.kind = 1) = False := eq_false hk1'
    simp only [go_sem, seval, hkf, decide_false]
    refine ⟨by decide +kernel, ?_⟩
    have hch : (cc c).chan x.cap 128 = false := by simp [CC.chan, hk1']
    have had : addrD (cc c) m i = m := by unfold addrD; rw [hgm, hch, if_neg (by decide)]
    rw [had] at hRR
    obtain ⟨m1, k1, hm1, hk1⟩ : ∃ m1 k1, m1 = m ∧ k1 = k := ⟨m, k, rfl, rfl⟩
    have hI1 : RInv (cc c) l0 m1 k1 := by rw [hm1, hk1]; exact hI
    have hi1 : i < m1.length := by rw [hm1]; exact him
    have hx1 : nth m1 i = x := by rw [hm1]; exact hx
    have hf1 : R = roundGo (cc c) (jobsD (cc c) m1 i ((List.range c.users.length).drop 0)) ((List.range l0.length).drop (i + 1)) := by rw [hm1]; exact hRR
    rw [← hm1, ← hk1]
    have ihh := show id _ from ih
    clear ih
    refine loop_by ([6, 59, 60, 61, 62, 63, 64, 65, 66, 67, 68, 69, 70, 71, 72], []) (fun z : Nat × List Der × Nat => [(.s 58, .int .i64 (z.1 : Int)), (.s 3, .bool (decide (0 < z.2.2))), (.o 75, dObj c 76 (z.2.2 + 1)), (.o 76, .obj (z.2.2 + 1) 59 8 false true (z.2.1.map encDer))]) (fun z => c.users.length - z.1)
      (fun z => z.1 ≤ c.users.length ∧ RInv (cc c) l0 z.2.1 z.2.2 ∧ i < z.2.1.length ∧ nth z.2.1 i = x ∧ R = roundGo (cc c) (jobsD (cc c) z.2.1 i ((List.range c.users.length).drop z.1)) ((List.range l0.length).drop (i + 1))) (0, m1, k1) rfl ⟨Nat.zero_le _, hI1, hi1, hx1, hf1⟩ ?_ ?_
    · simp only [go_sem, seval]
    rintro c2 st2 hst2 ⟨j, n, q⟩ ⟨hj, hI2, hi2, hx2, hf2⟩ ih2
    simp only at hj hI2 hi2 hx2 hf2 ih2 ⊢
    simp only [go_sem, seval]
    refine ifI (fun hjl => ?_) fun hjl => ?_
    case refine_2 =>
      subst hst2
      simp only [go_sem, seval, hjl]
      refine ihh (i + 1, n, q) _ ⟨by simp only; omega, hI2, by rw [hf2, List.drop_eq_nil_of_le (by simp; omega)]; rfl⟩ (by simp only; omega) ?_
      simp only [go_sem, seval, wrap_succ (show i < 9223372036854775807 by omega)]
    have hjj : j < c.users.length := by omega
    simp only [go_sem, seval, hjl]
    have hgx : (n.getD i default).cap.job = x.cap.job := by rw [← hx2]; rfl
    refine Classical.byCases (fun hne : (j : Int) = x.cap.job => ?_) fun hne => ?_
    · have hnt : ((j : Int) = x.cap.job) = True := eq_true hne
      simp only [go_sem, seval, hnt, not_true_eq_false, decide_false]
      refine ih2 (j + 1, n, q) _ ⟨by simp only; omega, hI2, hi2, hx2, ?_⟩ (by simp only; omega) ?_
      · rw [hf2, drop_range hjj, jobsD, if_pos (by rw [hgx]; exact hne)]
      simp only [go_sem, seval, wrap_succ (show j < 9223372036854775807 by omega)]
    have hnt : ((j : Int) = x.cap.job) = False := eq_false hne
    have hps := pass_good c (by omega) n (by have := hF.len hI2.ok; omega) i j hi2
    have hstep : R = roundGo (cc c) (jobsD (cc c) (pass (cc c) n i j) i ((List.range c.users.length).drop (j + 1))) ((List.range l0.length).drop (i + 1)) := by
      rw [hf2, drop_range hjj, jobsD, if_neg (by rw [hgx]; exact hne)]
    have hok := pass_ok (cc c) hI2.ok hi2 hjj (by rw [hgx]; exact hne)
    simp only [go_sem, seval, hnt, not_false_eq_true, decide_true]
    rcases pass_one (cc c) n i j with e | ⟨y2, e⟩
    · rw [e] at hps hstep
      rw [grew_same, verP_same] at hps
      refine callM_of [75, 76] [75, 76] (hps) ⟨by simp [renA, ren1, invM, posOf, verOf, AV.cellP, Env.go], by simp [renObj, ren1, invM, posOf, verOf, AV.cellP, Env.go, dObj], rfl, by simp, by simp, by simp, by simp, rfl, rfl, rfl, onodup_of (l := [63, 64]) rfl (by decide)⟩ ?_
      simp only [go_sem, seval]
      refine ih2 (j + 1, n, q) _ ⟨by simp only; omega, hI2, hi2, hx2, hstep⟩ (by simp only; omega) ?_
      simp only [go_sem, seval, wrap_succ (show j < 9223372036854775807 by omega)]
    · have hI3 := hI2.snoc (pass_pre (cc c) n i j) hok e
      have hg : grew n (pass (cc c) n i j) = true := by rw [e]; exact grew_snoc ..
      have hv : verP n (pass (cc c) n i j) = 2 := by rw [e]; exact verP_snoc ..
      have hi3 : i < (pass (cc c) n i j).length := Nat.lt_of_lt_of_le hi2 (pre_len (pass_pre (cc c) n i j))
      have hx3 : nth (pass (cc c) n i j) i = x := by rw [← hx2]; exact pre_getD (pass_pre (cc c) n i j) hi2
      have hq1 : (0 < q + 1) = True := eq_true (Nat.succ_pos q)
      rw [hg, hv] at hps
      generalize pass (cc c) n i j = n' at hps hI3 hi3 hx3 hstep
      refine callM_of [75, 76] [75, 76] (hps) ⟨by simp [renA, ren1, invM, posOf, verOf, AV.cellP, Env.go], by simp [renObj, ren1, invM, posOf, verOf, AV.cellP, Env.go, dObj], rfl, by simp, by simp, by simp, by simp, rfl, rfl, rfl, onodup_of (l := [63, 64]) rfl (by decide)⟩ ?_
      simp only [go_sem, seval]
      refine ih2 (j + 1, n', q + 1) _ ⟨by simp only; omega, hI3, hi3, hx3, hstep⟩ (by simp only; omega) ?_
      simp only [go_sem, seval, wrap_succ (show j < 9223372036854775807 by omega), hq1, decide_true]
  have hkt : (x.cap.kind = 1) = True := eq_true hk1'
  refine Classical.byCases (fun hs' : spB c x.cap.object = true => ?_) fun hs' => ?_
  case refine_2 =>
    have hsf : spB c x.cap.object = false := by simpa using hs'
    rw [hsf] at hsp
    simp only [go_sem, seval, hkt, decide_true]
    refine callD_of (hsp) ?_
    simp only [go_sem, seval]
    refine ⟨by decide +kernel, ?_⟩
    have hch : (cc c).chan x.cap 128 = false := by simp [CC.chan, cc, hsf]
    have had : addrD (cc c) m i = m := by unfold addrD; rw [hgm, hch, if_neg (by decide)]
    rw [had] at hRR
    obtain ⟨m1, k1, hm1, hk1⟩ : ∃ m1 k1, m1 = m ∧ k1 = k := ⟨m, k, rfl, rfl⟩
    have hI1 : RInv (cc c) l0 m1 k1 := by rw [hm1, hk1]; exact hI
    have hi1 : i < m1.length := by rw [hm1]; exact him
    have hx1 : nth m1 i = x := by rw [hm1]; exact hx
    have hf1 : R = roundGo (cc c) (jobsD (cc c) m1 i ((List.range c.users.length).drop 0)) ((List.range l0.length).drop (i + 1)) := by rw [hm1]; exact hRR
    rw [← hm1, ← hk1]
    have ihh := show id _ from ih
    clear ih
    refine loop_by ([6, 59, 60, 61, 62, 63, 64, 65, 66, 67, 68, 69, 70, 71, 72], []) (fun z : Nat × List Der × Nat => [(.s 58, .int .i64 (z.1 : Int)), (.s 3, .bool (decide (0 < z.2.2))), (.o 75, dObj c 76 (z.2.2 + 1)), (.o 76, .obj (z.2.2 + 1) 59 8 false true (z.2.1.map encDer))]) (fun z => c.users.length - z.1)
      (fun z => z.1 ≤ c.users.length ∧ RInv (cc c) l0 z.2.1 z.2.2 ∧ i < z.2.1.length ∧ nth z.2.1 i = x ∧ R = roundGo (cc c) (jobsD (cc c) z.2.1 i ((List.range c.users.length).drop z.1)) ((List.range l0.length).drop (i + 1))) (0, m1, k1) rfl ⟨Nat.zero_le _, hI1, hi1, hx1, hf1⟩ ?_ ?_
    · simp only [go_sem, seval]
    rintro c2 st2 hst2 ⟨j, n, q⟩ ⟨hj, hI2, hi2, hx2, hf2⟩ ih2
    simp only at hj hI2 hi2 hx2 hf2 ih2 ⊢
    simp only [go_sem, seval]
    refine ifI (fun hjl => ?_) fun hjl => ?_
    case refine_2 =>
      subst hst2
      simp only [go_sem, seval, hjl]
      refine ihh (i + 1, n, q) _ ⟨by simp only; omega, hI2, by rw [hf2, List.drop_eq_nil_of_le (by simp; omega)]; rfl⟩ (by simp only; omega) ?_
      simp only [go_sem, seval, wrap_succ (show i < 9223372036854775807 by omega)]
    have hjj : j < c.users.length := by omega
    simp only [go_sem, seval, hjl]
    have hgx : (n.getD i default).cap.job = x.cap.job := by rw [← hx2]; rfl
    refine Classical.byCases (fun hne : (j : Int) = x.cap.job => ?_) fun hne => ?_
    · have hnt : ((j : Int) = x.cap.job) = True := eq_true hne
      simp only [go_sem, seval, hnt, not_true_eq_false, decide_false]
      refine ih2 (j + 1, n, q) _ ⟨by simp only; omega, hI2, hi2, hx2, ?_⟩ (by simp only; omega) ?_
      · rw [hf2, drop_range hjj, jobsD, if_pos (by rw [hgx]; exact hne)]
      simp only [go_sem, seval, wrap_succ (show j < 9223372036854775807 by omega)]
    have hnt : ((j : Int) = x.cap.job) = False := eq_false hne
    have hps := pass_good c (by omega) n (by have := hF.len hI2.ok; omega) i j hi2
    have hstep : R = roundGo (cc c) (jobsD (cc c) (pass (cc c) n i j) i ((List.range c.users.length).drop (j + 1))) ((List.range l0.length).drop (i + 1)) := by
      rw [hf2, drop_range hjj, jobsD, if_neg (by rw [hgx]; exact hne)]
    have hok := pass_ok (cc c) hI2.ok hi2 hjj (by rw [hgx]; exact hne)
    simp only [go_sem, seval, hnt, not_false_eq_true, decide_true]
    rcases pass_one (cc c) n i j with e | ⟨y2, e⟩
    · rw [e] at hps hstep
      rw [grew_same, verP_same] at hps
      refine callM_of [75, 76] [75, 76] (hps) ⟨by simp [renA, ren1, invM, posOf, verOf, AV.cellP, Env.go], by simp [renObj, ren1, invM, posOf, verOf, AV.cellP, Env.go, dObj], rfl, by simp, by simp, by simp, by simp, rfl, rfl, rfl, onodup_of (l := [63, 64]) rfl (by decide)⟩ ?_
      simp only [go_sem, seval]
      refine ih2 (j + 1, n, q) _ ⟨by simp only; omega, hI2, hi2, hx2, hstep⟩ (by simp only; omega) ?_
      simp only [go_sem, seval, wrap_succ (show j < 9223372036854775807 by omega)]
    · have hI3 := hI2.snoc (pass_pre (cc c) n i j) hok e
      have hg : grew n (pass (cc c) n i j) = true := by rw [e]; exact grew_snoc ..
      have hv : verP n (pass (cc c) n i j) = 2 := by rw [e]; exact verP_snoc ..
      have hi3 : i < (pass (cc c) n i j).length := Nat.lt_of_lt_of_le hi2 (pre_len (pass_pre (cc c) n i j))
      have hx3 : nth (pass (cc c) n i j) i = x := by rw [← hx2]; exact pre_getD (pass_pre (cc c) n i j) hi2
      have hq1 : (0 < q + 1) = True := eq_true (Nat.succ_pos q)
      rw [hg, hv] at hps
      generalize pass (cc c) n i j = n' at hps hI3 hi3 hx3 hstep
      refine callM_of [75, 76] [75, 76] (hps) ⟨by simp [renA, ren1, invM, posOf, verOf, AV.cellP, Env.go], by simp [renObj, ren1, invM, posOf, verOf, AV.cellP, Env.go, dObj], rfl, by simp, by simp, by simp, by simp, rfl, rfl, rfl, onodup_of (l := [63, 64]) rfl (by decide)⟩ ?_
      simp only [go_sem, seval]
      refine ih2 (j + 1, n', q + 1) _ ⟨by simp only; omega, hI3, hi3, hx3, hstep⟩ (by simp only; omega) ?_
      simp only [go_sem, seval, wrap_succ (show j < 9223372036854775807 by omega), hq1, decide_true]
  rw [hs'] at hsp
  refine Classical.byCases (fun hi' : incB x.cap.auth 128 = true => ?_) fun hi' => ?_
  case refine_2 =>
    have hif : incB x.cap.auth 128 = false := by simpa using hi'
    rw [hif] at hin
    simp only [go_sem, seval, hkt, decide_true]
    refine callD_of (hsp) ?_
    simp only [go_sem, seval]
    refine callD_of (hin) ?_
    simp only [go_sem, seval]
    refine ⟨by decide +kernel, ?_⟩
    have hch : (cc c).chan x.cap 128 = false := by simp [CC.chan, cc, hif]
    have had : addrD (cc c) m i = m := by unfold addrD; rw [hgm, hch, if_neg (by decide)]
    rw [had] at hRR
    obtain ⟨m1, k1, hm1, hk1⟩ : ∃ m1 k1, m1 = m ∧ k1 = k := ⟨m, k, rfl, rfl⟩
    have hI1 : RInv (cc c) l0 m1 k1 := by rw [hm1, hk1]; exact hI
    have hi1 : i < m1.length := by rw [hm1]; exact him
    have hx1 : nth m1 i = x := by rw [hm1]; exact hx
    have hf1 : R = roundGo (cc c) (jobsD (cc c) m1 i ((List.range c.users.length).drop 0)) ((List.range l0.length).drop (i + 1)) := by rw [hm1]; exact hRR
    rw [← hm1, ← hk1]
    have ihh := show id _ from ih
    clear ih
    refine loop_by ([6, 59, 60, 61, 62, 63, 64, 65, 66, 67, 68, 69, 70, 71, 72], []) (fun z : Nat × List Der × Nat => [(.s 58, .int .i64 (z.1 : Int)), (.s 3, .bool (decide (0 < z.2.2))), (.o 75, dObj c 76 (z.2.2 + 1)), (.o 76, .obj (z.2.2 + 1) 59 8 false true (z.2.1.map encDer))]) (fun z => c.users.length - z.1)
      (fun z => z.1 ≤ c.users.length ∧ RInv (cc c) l0 z.2.1 z.2.2 ∧ i < z.2.1.length ∧ nth z.2.1 i = x ∧ R = roundGo (cc c) (jobsD (cc c) z.2.1 i ((List.range c.users.length).drop z.1)) ((List.range l0.length).drop (i + 1))) (0, m1, k1) rfl ⟨Nat.zero_le _, hI1, hi1, hx1, hf1⟩ ?_ ?_
    · simp only [go_sem, seval]
    rintro c2 st2 hst2 ⟨j, n, q⟩ ⟨hj, hI2, hi2, hx2, hf2⟩ ih2
    simp only at hj hI2 hi2 hx2 hf2 ih2 ⊢
    simp only [go_sem, seval]
    refine ifI (fun hjl => ?_) fun hjl => ?_
    case refine_2 =>
      subst hst2
      simp only [go_sem, seval, hjl]
      refine ihh (i + 1, n, q) _ ⟨by simp only; omega, hI2, by rw [hf2, List.drop_eq_nil_of_le (by simp; omega)]; rfl⟩ (by simp only; omega) ?_
      simp only [go_sem, seval, wrap_succ (show i < 9223372036854775807 by omega)]
    have hjj : j < c.users.length := by omega
    simp only [go_sem, seval, hjl]
    have hgx : (n.getD i default).cap.job = x.cap.job := by rw [← hx2]; rfl
    refine Classical.byCases (fun hne : (j : Int) = x.cap.job => ?_) fun hne => ?_
    · have hnt : ((j : Int) = x.cap.job) = True := eq_true hne
      simp only [go_sem, seval, hnt, not_true_eq_false, decide_false]
      refine ih2 (j + 1, n, q) _ ⟨by simp only; omega, hI2, hi2, hx2, ?_⟩ (by simp only; omega) ?_
      · rw [hf2, drop_range hjj, jobsD, if_pos (by rw [hgx]; exact hne)]
      simp only [go_sem, seval, wrap_succ (show j < 9223372036854775807 by omega)]
    have hnt : ((j : Int) = x.cap.job) = False := eq_false hne
    have hps := pass_good c (by omega) n (by have := hF.len hI2.ok; omega) i j hi2
    have hstep : R = roundGo (cc c) (jobsD (cc c) (pass (cc c) n i j) i ((List.range c.users.length).drop (j + 1))) ((List.range l0.length).drop (i + 1)) := by
      rw [hf2, drop_range hjj, jobsD, if_neg (by rw [hgx]; exact hne)]
    have hok := pass_ok (cc c) hI2.ok hi2 hjj (by rw [hgx]; exact hne)
    simp only [go_sem, seval, hnt, not_false_eq_true, decide_true]
    rcases pass_one (cc c) n i j with e | ⟨y2, e⟩
    · rw [e] at hps hstep
      rw [grew_same, verP_same] at hps
      refine callM_of [75, 76] [75, 76] (hps) ⟨by simp [renA, ren1, invM, posOf, verOf, AV.cellP, Env.go], by simp [renObj, ren1, invM, posOf, verOf, AV.cellP, Env.go, dObj], rfl, by simp, by simp, by simp, by simp, rfl, rfl, rfl, onodup_of (l := [63, 64]) rfl (by decide)⟩ ?_
      simp only [go_sem, seval]
      refine ih2 (j + 1, n, q) _ ⟨by simp only; omega, hI2, hi2, hx2, hstep⟩ (by simp only; omega) ?_
      simp only [go_sem, seval, wrap_succ (show j < 9223372036854775807 by omega)]
    · have hI3 := hI2.snoc (pass_pre (cc c) n i j) hok e
      have hg : grew n (pass (cc c) n i j) = true := by rw [e]; exact grew_snoc ..
      have hv : verP n (pass (cc c) n i j) = 2 := by rw [e]; exact verP_snoc ..
      have hi3 : i < (pass (cc c) n i j).length := Nat.lt_of_lt_of_le hi2 (pre_len (pass_pre (cc c) n i j))
      have hx3 : nth (pass (cc c) n i j) i = x := by rw [← hx2]; exact pre_getD (pass_pre (cc c) n i j) hi2
      have hq1 : (0 < q + 1) = True := eq_true (Nat.succ_pos q)
      rw [hg, hv] at hps
      generalize pass (cc c) n i j = n' at hps hI3 hi3 hx3 hstep
      refine callM_of [75, 76] [75, 76] (hps) ⟨by simp [renA, ren1, invM, posOf, verOf, AV.cellP, Env.go], by simp [renObj, ren1, invM, posOf, verOf, AV.cellP, Env.go, dObj], rfl, by simp, by simp, by simp, by simp, rfl, rfl, rfl, onodup_of (l := [63, 64]) rfl (by decide)⟩ ?_
      simp only [go_sem, seval]
      refine ih2 (j + 1, n', q + 1) _ ⟨by simp only; omega, hI3, hi3, hx3, hstep⟩ (by simp only; omega) ?_
      simp only [go_sem, seval, wrap_succ (show j < 9223372036854775807 by omega), hq1, decide_true]
  rw [hi'] at hin
  have hch : (cc c).chan x.cap 128 = true := by simp [CC.chan, cc, hk1', hs', hi']
  simp only [go_sem, seval, hkt, decide_true]
  refine callD_of (hsp) ?_
  simp only [go_sem, seval]
  refine callD_of (hin) ?_
  simp only [go_sem, seval]
  refine ⟨by decide +kernel, ?_⟩
  have had : addrD (cc c) m i = addD m ⟨⟨x.cap.job, x.cap.object, 0, 0⟩, 1, (i : Int), 0, 0⟩ := by unfold addrD; rw [hgm, if_pos hch]
  have hdk := addrD_ok (cc c) hI.ok him
  have hpr := addrD_pre (cc c) m i
  generalize hy : (⟨⟨x.cap.job, x.cap.object, 0, 0⟩, 1, (i : Int), 0, 0⟩ : Der) = y at had
  have hye : encDer y = [.int .i64 x.cap.job, .int .i64 x.cap.object, .int .i64 0, .int .i64 0, .int .i64 1, .int .i64 (i : Int), .int .i64 0, .int .i64 0] := by rw [← hy]; rfl
  cases hh : has m y.cap with
  | true =>
    have had2 : addrD (cc c) m i = m := by rw [had, addD, if_pos hh]
    have ha := add_old c m y (by omega) hh
    rw [hye] at ha
    rw [had2] at hRR
    refine callM_of [75, 76] [75, 76] (ha) ⟨by simp [renA, ren1, invM, posOf, verOf, AV.cellP, Env.go], by simp [renObj, ren1, invM, posOf, verOf, AV.cellP, Env.go, dObj], rfl, by simp, by simp, by simp, by simp, rfl, rfl, rfl, onodup_of (l := [21, 22]) rfl (by decide)⟩ ?_
    simp only [go_sem, seval]
    obtain ⟨m1, k1, hm1, hk1⟩ : ∃ m1 k1, m1 = m ∧ k1 = k := ⟨m, k, rfl, rfl⟩
    have hI1 : RInv (cc c) l0 m1 k1 := by rw [hm1, hk1]; exact hI
    have hi1 : i < m1.length := by rw [hm1]; exact him
    have hx1 : nth m1 i = x := by rw [hm1]; exact hx
    have hf1 : R = roundGo (cc c) (jobsD (cc c) m1 i ((List.range c.users.length).drop 0)) ((List.range l0.length).drop (i + 1)) := by rw [hm1]; exact hRR
    rw [← hm1, ← hk1]
    have ihh := show id _ from ih
    clear ih
    refine loop_by ([6, 59, 60, 61, 62, 63, 64, 65, 66, 67, 68, 69, 70, 71, 72], []) (fun z : Nat × List Der × Nat => [(.s 58, .int .i64 (z.1 : Int)), (.s 3, .bool (decide (0 < z.2.2))), (.o 75, dObj c 76 (z.2.2 + 1)), (.o 76, .obj (z.2.2 + 1) 59 8 false true (z.2.1.map encDer))]) (fun z => c.users.length - z.1)
      (fun z => z.1 ≤ c.users.length ∧ RInv (cc c) l0 z.2.1 z.2.2 ∧ i < z.2.1.length ∧ nth z.2.1 i = x ∧ R = roundGo (cc c) (jobsD (cc c) z.2.1 i ((List.range c.users.length).drop z.1)) ((List.range l0.length).drop (i + 1))) (0, m1, k1) rfl ⟨Nat.zero_le _, hI1, hi1, hx1, hf1⟩ ?_ ?_
    · simp only [go_sem, seval]
    rintro c2 st2 hst2 ⟨j, n, q⟩ ⟨hj, hI2, hi2, hx2, hf2⟩ ih2
    simp only at hj hI2 hi2 hx2 hf2 ih2 ⊢
    simp only [go_sem, seval]
    refine ifI (fun hjl => ?_) fun hjl => ?_
    case refine_2 =>
      subst hst2
      simp only [go_sem, seval, hjl]
      refine ihh (i + 1, n, q) _ ⟨by simp only; omega, hI2, by rw [hf2, List.drop_eq_nil_of_le (by simp; omega)]; rfl⟩ (by simp only; omega) ?_
      simp only [go_sem, seval, wrap_succ (show i < 9223372036854775807 by omega)]
    have hjj : j < c.users.length := by omega
    simp only [go_sem, seval, hjl]
    have hgx : (n.getD i default).cap.job = x.cap.job := by rw [← hx2]; rfl
    refine Classical.byCases (fun hne : (j : Int) = x.cap.job => ?_) fun hne => ?_
    · have hnt : ((j : Int) = x.cap.job) = True := eq_true hne
      simp only [go_sem, seval, hnt, not_true_eq_false, decide_false]
      refine ih2 (j + 1, n, q) _ ⟨by simp only; omega, hI2, hi2, hx2, ?_⟩ (by simp only; omega) ?_
      · rw [hf2, drop_range hjj, jobsD, if_pos (by rw [hgx]; exact hne)]
      simp only [go_sem, seval, wrap_succ (show j < 9223372036854775807 by omega)]
    have hnt : ((j : Int) = x.cap.job) = False := eq_false hne
    have hps := pass_good c (by omega) n (by have := hF.len hI2.ok; omega) i j hi2
    have hstep : R = roundGo (cc c) (jobsD (cc c) (pass (cc c) n i j) i ((List.range c.users.length).drop (j + 1))) ((List.range l0.length).drop (i + 1)) := by
      rw [hf2, drop_range hjj, jobsD, if_neg (by rw [hgx]; exact hne)]
    have hok := pass_ok (cc c) hI2.ok hi2 hjj (by rw [hgx]; exact hne)
    simp only [go_sem, seval, hnt, not_false_eq_true, decide_true]
    rcases pass_one (cc c) n i j with e | ⟨y2, e⟩
    · rw [e] at hps hstep
      rw [grew_same, verP_same] at hps
      refine callM_of [75, 76] [75, 76] (hps) ⟨by simp [renA, ren1, invM, posOf, verOf, AV.cellP, Env.go], by simp [renObj, ren1, invM, posOf, verOf, AV.cellP, Env.go, dObj], rfl, by simp, by simp, by simp, by simp, rfl, rfl, rfl, onodup_of (l := [63, 64]) rfl (by decide)⟩ ?_
      simp only [go_sem, seval]
      refine ih2 (j + 1, n, q) _ ⟨by simp only; omega, hI2, hi2, hx2, hstep⟩ (by simp only; omega) ?_
      simp only [go_sem, seval, wrap_succ (show j < 9223372036854775807 by omega)]
    · have hI3 := hI2.snoc (pass_pre (cc c) n i j) hok e
      have hg : grew n (pass (cc c) n i j) = true := by rw [e]; exact grew_snoc ..
      have hv : verP n (pass (cc c) n i j) = 2 := by rw [e]; exact verP_snoc ..
      have hi3 : i < (pass (cc c) n i j).length := Nat.lt_of_lt_of_le hi2 (pre_len (pass_pre (cc c) n i j))
      have hx3 : nth (pass (cc c) n i j) i = x := by rw [← hx2]; exact pre_getD (pass_pre (cc c) n i j) hi2
      have hq1 : (0 < q + 1) = True := eq_true (Nat.succ_pos q)
      rw [hg, hv] at hps
      generalize pass (cc c) n i j = n' at hps hI3 hi3 hx3 hstep
      refine callM_of [75, 76] [75, 76] (hps) ⟨by simp [renA, ren1, invM, posOf, verOf, AV.cellP, Env.go], by simp [renObj, ren1, invM, posOf, verOf, AV.cellP, Env.go, dObj], rfl, by simp, by simp, by simp, by simp, rfl, rfl, rfl, onodup_of (l := [63, 64]) rfl (by decide)⟩ ?_
      simp only [go_sem, seval]
      refine ih2 (j + 1, n', q + 1) _ ⟨by simp only; omega, hI3, hi3, hx3, hstep⟩ (by simp only; omega) ?_
      simp only [go_sem, seval, wrap_succ (show j < 9223372036854775807 by omega), hq1, decide_true]
  | false =>
    have had2 : addrD (cc c) m i = m ++ [y] := by rw [had, addD, if_neg (by rw [hh]; decide)]
    have ha := add_new c m y (by omega) hh
    rw [hye] at ha
    have hI1 := hI.snoc hpr hdk had2
    rw [had2] at hRR hpr hI1
    have hi1 : i < (m ++ [y]).length := Nat.lt_of_lt_of_le him (pre_len hpr)
    have hx1 : nth (m ++ [y]) i = x := by rw [← hx]; exact pre_getD hpr him
    have hq1 : (0 < k + 1) = True := eq_true (Nat.succ_pos k)
    generalize m ++ [y] = m1 at ha hI1 hi1 hx1 hRR
    have hf1 := hRR
    refine callM_of [75, 76] [75, 76] (ha) ⟨by simp [renA, ren1, invM, posOf, verOf, AV.cellP, Env.go], by simp [renObj, ren1, invM, posOf, verOf, AV.cellP, Env.go, dObj], rfl, by simp, by simp, by simp, by simp, rfl, rfl, rfl, onodup_of (l := [21, 18]) rfl (by decide)⟩ ?_
    simp only [go_sem, seval]
    obtain ⟨k1, hk1⟩ : ∃ k1, k1 = k + 1 := ⟨_, rfl⟩
    have hkk : (0 < k1) = True := eq_true (by omega)
    rw [← hk1] at hI1 ⊢
    have ihh := show id _ from ih
    clear ih
    refine loop_by ([6, 59, 60, 61, 62, 63, 64, 65, 66, 67, 68, 69, 70, 71, 72], []) (fun z : Nat × List Der × Nat => [(.s 58, .int .i64 (z.1 : Int)), (.s 3, .bool (decide (0 < z.2.2))), (.o 75, dObj c 76 (z.2.2 + 1)), (.o 76, .obj (z.2.2 + 1) 59 8 false true (z.2.1.map encDer))]) (fun z => c.users.length - z.1)
      (fun z => z.1 ≤ c.users.length ∧ RInv (cc c) l0 z.2.1 z.2.2 ∧ i < z.2.1.length ∧ nth z.2.1 i = x ∧ R = roundGo (cc c) (jobsD (cc c) z.2.1 i ((List.range c.users.length).drop z.1)) ((List.range l0.length).drop (i + 1))) (0, m1, k1) rfl ⟨Nat.zero_le _, hI1, hi1, hx1, hf1⟩ ?_ ?_
    · simp only [go_sem, seval, hkk, decide_true]
    rintro c2 st2 hst2 ⟨j, n, q⟩ ⟨hj, hI2, hi2, hx2, hf2⟩ ih2
    simp only at hj hI2 hi2 hx2 hf2 ih2 ⊢
    simp only [go_sem, seval]
    refine ifI (fun hjl => ?_) fun hjl => ?_
    case refine_2 =>
      subst hst2
      simp only [go_sem, seval, hjl]
      refine ihh (i + 1, n, q) _ ⟨by simp only; omega, hI2, by rw [hf2, List.drop_eq_nil_of_le (by simp; omega)]; rfl⟩ (by simp only; omega) ?_
      simp only [go_sem, seval, wrap_succ (show i < 9223372036854775807 by omega)]
    have hjj : j < c.users.length := by omega
    simp only [go_sem, seval, hjl]
    have hgx : (n.getD i default).cap.job = x.cap.job := by rw [← hx2]; rfl
    refine Classical.byCases (fun hne : (j : Int) = x.cap.job => ?_) fun hne => ?_
    · have hnt : ((j : Int) = x.cap.job) = True := eq_true hne
      simp only [go_sem, seval, hnt, not_true_eq_false, decide_false]
      refine ih2 (j + 1, n, q) _ ⟨by simp only; omega, hI2, hi2, hx2, ?_⟩ (by simp only; omega) ?_
      · rw [hf2, drop_range hjj, jobsD, if_pos (by rw [hgx]; exact hne)]
      simp only [go_sem, seval, wrap_succ (show j < 9223372036854775807 by omega)]
    have hnt : ((j : Int) = x.cap.job) = False := eq_false hne
    have hps := pass_good c (by omega) n (by have := hF.len hI2.ok; omega) i j hi2
    have hstep : R = roundGo (cc c) (jobsD (cc c) (pass (cc c) n i j) i ((List.range c.users.length).drop (j + 1))) ((List.range l0.length).drop (i + 1)) := by
      rw [hf2, drop_range hjj, jobsD, if_neg (by rw [hgx]; exact hne)]
    have hok := pass_ok (cc c) hI2.ok hi2 hjj (by rw [hgx]; exact hne)
    simp only [go_sem, seval, hnt, not_false_eq_true, decide_true]
    rcases pass_one (cc c) n i j with e | ⟨y2, e⟩
    · rw [e] at hps hstep
      rw [grew_same, verP_same] at hps
      refine callM_of [75, 76] [75, 76] (hps) ⟨by simp [renA, ren1, invM, posOf, verOf, AV.cellP, Env.go], by simp [renObj, ren1, invM, posOf, verOf, AV.cellP, Env.go, dObj], rfl, by simp, by simp, by simp, by simp, rfl, rfl, rfl, onodup_of (l := [63, 64]) rfl (by decide)⟩ ?_
      simp only [go_sem, seval]
      refine ih2 (j + 1, n, q) _ ⟨by simp only; omega, hI2, hi2, hx2, hstep⟩ (by simp only; omega) ?_
      simp only [go_sem, seval, wrap_succ (show j < 9223372036854775807 by omega)]
    · have hI3 := hI2.snoc (pass_pre (cc c) n i j) hok e
      have hg : grew n (pass (cc c) n i j) = true := by rw [e]; exact grew_snoc ..
      have hv : verP n (pass (cc c) n i j) = 2 := by rw [e]; exact verP_snoc ..
      have hi3 : i < (pass (cc c) n i j).length := Nat.lt_of_lt_of_le hi2 (pre_len (pass_pre (cc c) n i j))
      have hx3 : nth (pass (cc c) n i j) i = x := by rw [← hx2]; exact pre_getD (pass_pre (cc c) n i j) hi2
      have hq1 : (0 < q + 1) = True := eq_true (Nat.succ_pos q)
      rw [hg, hv] at hps
      generalize pass (cc c) n i j = n' at hps hI3 hi3 hx3 hstep
      refine callM_of [75, 76] [75, 76] (hps) ⟨by simp [renA, ren1, invM, posOf, verOf, AV.cellP, Env.go], by simp [renObj, ren1, invM, posOf, verOf, AV.cellP, Env.go, dObj], rfl, by simp, by simp, by simp, by simp, rfl, rfl, rfl, onodup_of (l := [63, 64]) rfl (by decide)⟩ ?_
      simp only [go_sem, seval]
      refine ih2 (j + 1, n', q + 1) _ ⟨by simp only; omega, hI3, hi3, hx3, hstep⟩ (by simp only; omega) ?_
      simp only [go_sem, seval, wrap_succ (show j < 9223372036854775807 by omega), hq1, decide_true]
end Go.Proofs.YtbhgehhmjpipiaaGreat.C12
