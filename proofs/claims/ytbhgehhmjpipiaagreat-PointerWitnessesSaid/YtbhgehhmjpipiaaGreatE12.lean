/- Chapter 12: the program's witnesses. -/
import Derived.Test.YtbhgehhmjpipiaaGreatE11
namespace Go.Proofs.YtbhgehhmjpipiaaGreat.C12
open Go Go.Proofs Go.Proofs.YtbhgehhmjpipiaaGreat.Ab Go.Proofs.YtbhgehhmjpipiaaGreat.C10
set_option maxRecDepth 100000
set_option linter.unusedSimpArgs false
set_option linter.unusedVariables false
attribute [local congr] ite_ctx
/-- Which of three objects holds the row. -/
inductive W3 where
  | a
  | b
  | d
/-- How often each object was written. -/
structure Wn where
  w : W3
  n0 : Nat
  n1 : Nat
  n2 : Nat
def refW (w : W3) (n0 n1 n2 : Nat) : AV := match w with
  | .a => .ref 63 (n0 + 1)
  | .b => .ref 74 n1
  | .d => .ref 52 n2
def rowA (w : W3) (n0 : Nat) (xs : List (List AV)) : AV := match w with
  | .a => .obj (n0 + 1) 93 8 false true xs
  | _ => .dead (n0 + 1)
def rowB (w : W3) (n1 : Nat) (xs : List (List AV)) : AV := match w with
  | .b => .obj n1 93 8 false true xs
  | _ => deadV n1
def rowD (w : W3) (n2 : Nat) (xs : List (List AV)) : AV := match w with
  | .d => .obj n2 93 8 false true xs
  | _ => deadV n2
theorem refW_a (n0 n1 n2) : refW .a n0 n1 n2 = .ref 63 (n0 + 1) := rfl
theorem refW_b (n0 n1 n2) : refW .b n0 n1 n2 = .ref 74 n1 := rfl
theorem refW_d (n0 n1 n2) : refW .d n0 n1 n2 = .ref 52 n2 := rfl
theorem rowA_a (n xs) : rowA .a n xs = .obj (n + 1) 93 8 false true xs := rfl
theorem rowA_b (n xs) : rowA .b n xs = .dead (n + 1) := rfl
theorem rowA_d (n xs) : rowA .d n xs = .dead (n + 1) := rfl
theorem rowB_a (n xs) : rowB .a n xs = deadV n := rfl
theorem rowB_b (n xs) : rowB .b n xs = .obj n 93 8 false true xs := rfl
theorem rowB_d (n xs) : rowB .d n xs = deadV n := rfl
theorem rowD_a (n xs) : rowD .a n xs = deadV n := rfl
theorem rowD_b (n xs) : rowD .b n xs = deadV n := rfl
theorem rowD_d (n xs) : rowD .d n xs = .obj n 93 8 false true xs := rfl
attribute [local go_sem] refW_a refW_b refW_d rowA_a rowA_b rowA_d rowB_a rowB_b rowB_d rowD_a rowD_b rowD_d
def WOk (z : Wn) : Prop := match z.w with
  | .a => True
  | .b => 0 < z.n1
  | .d => 0 < z.n2
theorem deadV_pos {n : Nat} (h : 0 < n) : deadV n = .dead n := by
  obtain ⟨k, rfl⟩ : ∃ k, n = k + 1 := ⟨n - 1, by omega⟩
  rfl
theorem ops_zero (L : List Der) : opsN L 0 = [] := rfl
theorem ops_r {L : List Der} {i : Nat} {d : Der} (hd : nth L i = d) (h : d.kind = 0) : List.map encCOp (opsN L (i + 1)) = List.map encCOp (opsN L i) ++ [[.int .i64 0, .int .i64 d.cap.job, .int .i64 0, .int .i64 (i : Int), .int .i64 0, .int .i64 d.cap.object, .int .i64 0, .str ⟨#[]⟩]] := by
  have hd' : L.getD i default = d := hd
  rw [opsN, hd', List.map_append, wOps, if_pos h]; rfl
theorem ops_a {L : List Der} {i : Nat} {d : Der} (hd : nth L i = d) (h0 : ¬ d.kind = 0) (h : d.kind = 1) : List.map encCOp (opsN L (i + 1)) = List.map encCOp (opsN L i) ++ [[.int .i64 5, .int .i64 d.cap.job, .int .i64 d.source, .int .i64 (i : Int), .int .i64 0, .int .i64 0, .int .i64 0, .str ⟨#[]⟩]] := by
  have hd' : L.getD i default = d := hd
  rw [opsN, hd', List.map_append, wOps, if_neg h0, if_pos h]; rfl
theorem ops_s {L : List Der} {i : Nat} {d : Der} (hd : nth L i = d) (h0 : ¬ d.kind = 0) (h : ¬ d.kind = 1) : List.map encCOp (opsN L (i + 1)) = List.map encCOp (opsN L i) ++ [[.int .i64 6, .int .i64 (nth L d.source.toNat).cap.job, .int .i64 d.source, .int .i64 (i : Int), .int .i64 d.writer, .int .i64 0, .int .i64 0, .str ⟨#[]⟩], [.int .i64 7, .int .i64 d.cap.job, .int .i64 (i : Int), .int .i64 (i : Int), .int .i64 d.reader, .int .i64 0, .int .i64 0, .str ⟨#[]⟩]] := by
  have hd' : L.getD i default = d := hd
  rw [opsN, hd', List.map_append, wOps, if_neg h0, if_neg h]; rfl
theorem ops_bounds {L : List Der} {i : Nat} (h : i ≤ 60) : ((opsN L i).length + 1) * 72 ≤ 140737488355328 ∧ (opsN L i).length + 1 ≤ maxLen ∧ ((opsN L i).length + 2) * 72 ≤ 140737488355328 ∧ (opsN L i).length + 2 ≤ maxLen := by
  have := opsN_len L i
  unfold maxLen
  omega
/-- The index of the derivation of a capability. -/
def wIx (L : List Der) (x : Cap) : Int := findIx (fun y : Der => decide (y.cap = x)) L 0
theorem Witness_no {c : Case} (x : Cap) (hs : Fit c.sec) (hu : c.users.length ≤ 1000) (he : ¬ (caseE c).2 = 0) : Ans Tryz.prog 17 [.agg (encCase c), .agg (encCap x)] (.tup [.nils, .int .i64 (caseE c).2]) := by
  have h := caseErr_good c hs hu
  generalize (caseE c).2 = e at h he
  have het := eq_false he
  refine good_run [(7, [4, 5, 9, 10, 11, 22, 23, 24, 25, 26, 27, 28, 29, 30, 31, 32, 33, 34, 35, 36, 37, 38, 39, 40, 41, 42, 43, 44, 45, 46, 47, 48, 49, 50, 51, 52, 53, 54, 55, 56, 57, 58, 59, 60, 61, 62, 63, 64, 65, 66, 67, 68, 69, 70, 71, 72, 73, 74, 75, 76, 77, 78, 79], [10, 11, 62, 73, 51, 1708093063])] mixed Tryz.func17 rfl Tryz.ntmps17 (rs := [.tmp 4, .tmp 5]) rfl (by decide +kernel) (by kernel_rfl) rfl ?_
  rw [startE_eq 80 _ _ _ rfl rfl]
  simp only [go_sem, seval]
  refine call_of (h) ?_
  simp only [go_sem, seval, het, not_false_eq_true, decide_true]
set_option maxHeartbeats 16000000 in
theorem Witness_good {c : Case} (h : Right c) (he : (caseE c).2 = 0) (x : Cap) : Ans Tryz.prog 17 [.agg (encCase c), .agg (encCap x)] (if 0 ≤ wIx (derive (cc c)) x then .tup [.sl ((opsN (derive (cc c)) ((wIx (derive (cc c)) x).toNat + 1)).map encCOp), .int .i64 0] else .tup [.nils, .int .i64 40]) := by
  have hE := caseErr_good c h.fit (by have := h.J; omega)
  rw [he] at hE
  have hD := derive_good c h
  have hl := derive_len h
  have hok := derive_ok h
  generalize derive (cc c) = L at hD hl hok
  have hsrc : ∀ i, i < L.length → ¬ (nth L i).kind = 0 → 0 ≤ (nth L i).source ∧ (nth L i).source < (L.length : Int) := fun i hi hk => by
    have hP := hok.proved i hi
    have e : L.getD i default = nth L i := rfl
    rw [e] at hP
    rcases hP.how with q | ⟨_, _, _, _, _, y, q1, q2, _⟩ | ⟨_, y, w, r, q1, _, _, q2, _⟩
    · exact absurd q.1 hk
    · have := (getD_take q2).1; omega
    · have := (getD_take q2).1; omega
  generalize hix : wIx L x = ix
  have hF0 : ix = findIx (fun y : Der => decide (y.cap = x)) (L.drop 0) 0 := hix.symm
  obtain ⟨R, hR⟩ : ∃ R, (if 0 ≤ ix then AV.tup [.sl ((opsN L (ix.toNat + 1)).map encCOp), .int .i64 0] else .tup [.nils, .int .i64 40]) = R := ⟨_, rfl⟩
  have hpR : R.pureR = true := by rw [← hR]; split <;> rfl
  rw [hR]
  refine good_run [(7, [4, 5, 9, 10, 11, 22, 23, 24, 25, 26, 27, 28, 29, 30, 31, 32, 33, 34, 35, 36, 37, 38, 39, 40, 41, 42, 43, 44, 45, 46, 47, 48, 49, 50, 51, 52, 53, 54, 55, 56, 57, 58, 59, 60, 61, 62, 63, 64, 65, 66, 67, 68, 69, 70, 71, 72, 73, 74, 75, 76, 77, 78, 79], [10, 11, 62, 73, 51, 1708093063])] mixed Tryz.func17 rfl Tryz.ntmps17 (rs := [.tmp 4, .tmp 5]) rfl (by decide +kernel) (by kernel_rfl) (hpR) ?_
  rw [startE_eq 80 _ _ _ rfl rfl]
  simp only [go_sem, seval]
  refine call_of (hE) ?_
  simp only [go_sem, seval]
  refine call_of (hD) ?_
  simp only [go_sem, seval]
  refine loop_by ([4, 5, 9, 10, 11, 22, 23, 24, 25, 26, 27, 28, 29, 30, 31, 32, 33, 34, 35, 36, 37, 38, 39, 40, 41, 42, 43, 44, 45, 46, 47, 48, 49, 50, 51, 52, 53, 54, 55, 56, 57, 58, 59, 60, 61, 62, 63, 64, 65, 66, 67, 68, 69, 70, 71, 72, 73, 74, 75, 76, 77, 78, 79], [10, 11, 62, 73, 51, 1708093063]) (fun z : Nat × Wn => [(.s 21, .int .i64 (z.1 : Int)), (.s 7, refW z.2.w z.2.n0 z.2.n1 z.2.n2), (.o 63, rowA z.2.w z.2.n0 ((opsN L z.1).map encCOp)), (.o 74, rowB z.2.w z.2.n1 ((opsN L z.1).map encCOp)), (.o 52, rowD z.2.w z.2.n2 ((opsN L z.1).map encCOp)), (.o 10, deadV z.1), (.o 11, deadV z.1), (.o 62, deadV z.2.n0), (.o 73, deadV z.2.n1), (.o 51, deadV z.2.n2)]) (fun z => L.length - z.1)
    (fun z => z.1 ≤ L.length ∧ WOk z.2 ∧ ix = findIx (fun y : Der => decide (y.cap = x)) (L.drop z.1) z.1) (0, ⟨.a, 0, 0, 0⟩) rfl ⟨Nat.zero_le _, trivial, hF0⟩ ?_ ?_
  · simp only [go_sem, seval, ops_zero, List.map_nil]
  rintro c' st' hst ⟨i, ⟨w, n0, n1, n2⟩⟩ ⟨hi, hw, hf⟩ ih
  simp only at hi hf ih ⊢
  cases w with
  | a =>
    simp only [go_sem, seval]
    refine ifI (fun hlt => ?_) fun hlt => ?_
    case refine_2 =>
      subst hst
      have : ix = -1 := by rw [hf, List.drop_eq_nil_of_le (by omega)]; rfl
      rw [if_neg (by omega)] at hR
      subst hR
      simp only [go_sem, seval, hlt]
    have hlt' : i < L.length := by omega
    have hdr := drop_nth hlt'
    have hs := hsrc i hlt'
    generalize hd : nth L i = d at hdr hs
    have bb := ops_bounds (L := L) (show i ≤ 60 by omega)
    obtain ⟨b1, b2, b3, b4⟩ := bb
    have heq := cap_eqB d.cap x
    have hgo : d.cap = x → ix = (i : Int) := fun e => by rw [hf, hdr, findIx, if_pos (decide_eq_true e)]
    have hnx : ¬ d.cap = x → ix = findIx (fun y : Der => decide (y.cap = x)) (L.drop (i + 1)) (i + 1) := fun e => by rw [hf, hdr, findIx, if_neg (by rw [decide_eq_false e]; decide)]
    have hfin : d.cap = x → R = .tup [.sl ((opsN L (i + 1)).map encCOp), .int .i64 0] := fun e => by
      rw [← hR, hgo e, if_pos (by omega), Int.toNat_natCast]
    simp only [go_sem, seval, hlt, hlt', hd, heq]
    refine Classical.byCases (fun k0 : d.kind = 0 => ?_) fun k0 => ?_
    · have k0t := eq_true k0
      have hop := ops_r hd k0
      simp only [go_sem, seval, k0t, decide_true, b1, b2, heq]
      refine Classical.byCases (fun he2 : d.cap = x => ?_) fun he2 => ?_
      · have het := eq_true he2
        have hRf := hfin he2
        simp only [go_sem, seval, het, decide_true]
        rw [hRf, hop]
        try exact ⟨rfl, rfl⟩
      · have het := eq_false he2
        have hwn : WOk ⟨.a, n0 + 1, n1, n2⟩ := trivial
        simp only [go_sem, seval, het, decide_false]
        refine ih (i + 1, ⟨.a, n0 + 1, n1, n2⟩) _ ⟨by simp only; omega, hwn, hnx he2⟩ (by simp only; omega) ?_
        simp only [go_sem, seval, wrap_succ (show i < 9223372036854775807 by omega), hop]
    have k0t := eq_false k0
    refine Classical.byCases (fun k1 : d.kind = 1 => ?_) fun k1 => ?_
    · have k1t := eq_true k1
      have hop := ops_a hd k0 k1
      simp only [go_sem, seval, k0t, k1t, decide_true, decide_false, b1, b2, heq]
      refine Classical.byCases (fun he2 : d.cap = x => ?_) fun he2 => ?_
      · have het := eq_true he2
        have hRf := hfin he2
        simp only [go_sem, seval, het, decide_true]
        rw [hRf, hop]
        try exact ⟨rfl, rfl⟩
      · have het := eq_false he2
        have hwn : WOk ⟨.b, n0, n1 + 1, n2⟩ := Nat.succ_pos _
        simp only [go_sem, seval, het, decide_false]
        refine ih (i + 1, ⟨.b, n0, n1 + 1, n2⟩) _ ⟨by simp only; omega, hwn, hnx he2⟩ (by simp only; omega) ?_
        simp only [go_sem, seval, wrap_succ (show i < 9223372036854775807 by omega), hop]
    have k1t := eq_false k1
    have hop := ops_s hd k0 k1
    have s1 := (hs k0).1
    have s2 := (hs k0).2
    have s3 : d.source.toNat < L.length := by omega
    simp only [go_sem, seval, k0t, k1t, decide_false, b1, b2, b3, b4, s1, s2, s3, heq]
    refine ⟨by decide +kernel, ?_⟩
    refine Classical.byCases (fun he2 : d.cap = x => ?_) fun he2 => ?_
    · have het := eq_true he2
      have hRf := hfin he2
      simp only [go_sem, seval, het, decide_true]
      rw [hRf, hop]
      try exact ⟨rfl, rfl⟩
    · have het := eq_false he2
      have hwn : WOk ⟨.d, n0, n1, n2 + 1⟩ := Nat.succ_pos _
      simp only [go_sem, seval, het, decide_false]
      refine ih (i + 1, ⟨.d, n0, n1, n2 + 1⟩) _ ⟨by simp only; omega, hwn, hnx he2⟩ (by simp only; omega) ?_
      simp only [go_sem, seval, wrap_succ (show i < 9223372036854775807 by omega), hop]
  | b =>
    have hdv : deadV n1 = .dead n1 := deadV_pos hw
    simp only [go_sem, seval]
    refine ifI (fun hlt => ?_) fun hlt => ?_
    case refine_2 =>
      subst hst
      have : ix = -1 := by rw [hf, List.drop_eq_nil_of_le (by omega)]; rfl
      rw [if_neg (by omega)] at hR
      subst hR
      simp only [go_sem, seval, hlt]
    have hlt' : i < L.length := by omega
    have hdr := drop_nth hlt'
    have hs := hsrc i hlt'
    generalize hd : nth L i = d at hdr hs
    have bb := ops_bounds (L := L) (show i ≤ 60 by omega)
    obtain ⟨b1, b2, b3, b4⟩ := bb
    have heq := cap_eqB d.cap x
    have hgo : d.cap = x → ix = (i : Int) := fun e => by rw [hf, hdr, findIx, if_pos (decide_eq_true e)]
    have hnx : ¬ d.cap = x → ix = findIx (fun y : Der => decide (y.cap = x)) (L.drop (i + 1)) (i + 1) := fun e => by rw [hf, hdr, findIx, if_neg (by rw [decide_eq_false e]; decide)]
    have hfin : d.cap = x → R = .tup [.sl ((opsN L (i + 1)).map encCOp), .int .i64 0] := fun e => by
      rw [← hR, hgo e, if_pos (by omega), Int.toNat_natCast]
    simp only [go_sem, seval, hlt, hlt', hd, heq]
    refine Classical.byCases (fun k0 : d.kind = 0 => ?_) fun k0 => ?_
    · have k0t := eq_true k0
      have hop := ops_r hd k0
      simp only [go_sem, seval, k0t, decide_true, b1, b2, heq]
      refine Classical.byCases (fun he2 : d.cap = x => ?_) fun he2 => ?_
      · have het := eq_true he2
        have hRf := hfin he2
        simp only [go_sem, seval, het, decide_true]
        rw [hRf, hop]
        try exact ⟨rfl, rfl⟩
      · have het := eq_false he2
        have hwn : WOk ⟨.a, n0 + 1, n1, n2⟩ := trivial
        simp only [go_sem, seval, het, decide_false]
        refine ih (i + 1, ⟨.a, n0 + 1, n1, n2⟩) _ ⟨by simp only; omega, hwn, hnx he2⟩ (by simp only; omega) ?_
        simp only [go_sem, seval, wrap_succ (show i < 9223372036854775807 by omega), hop, hdv]
    have k0t := eq_false k0
    refine Classical.byCases (fun k1 : d.kind = 1 => ?_) fun k1 => ?_
    · have k1t := eq_true k1
      have hop := ops_a hd k0 k1
      simp only [go_sem, seval, k0t, k1t, decide_true, decide_false, b1, b2, heq]
      refine Classical.byCases (fun he2 : d.cap = x => ?_) fun he2 => ?_
      · have het := eq_true he2
        have hRf := hfin he2
        simp only [go_sem, seval, het, decide_true]
        rw [hRf, hop]
        try exact ⟨rfl, rfl⟩
      · have het := eq_false he2
        have hwn : WOk ⟨.b, n0, n1 + 1, n2⟩ := Nat.succ_pos _
        simp only [go_sem, seval, het, decide_false]
        refine ih (i + 1, ⟨.b, n0, n1 + 1, n2⟩) _ ⟨by simp only; omega, hwn, hnx he2⟩ (by simp only; omega) ?_
        simp only [go_sem, seval, wrap_succ (show i < 9223372036854775807 by omega), hop, hdv]
    have k1t := eq_false k1
    have hop := ops_s hd k0 k1
    have s1 := (hs k0).1
    have s2 := (hs k0).2
    have s3 : d.source.toNat < L.length := by omega
    simp only [go_sem, seval, k0t, k1t, decide_false, b1, b2, b3, b4, s1, s2, s3, heq]
    refine ⟨by decide +kernel, ?_⟩
    refine Classical.byCases (fun he2 : d.cap = x => ?_) fun he2 => ?_
    · have het := eq_true he2
      have hRf := hfin he2
      simp only [go_sem, seval, het, decide_true]
      rw [hRf, hop]
      try exact ⟨rfl, rfl⟩
    · have het := eq_false he2
      have hwn : WOk ⟨.d, n0, n1, n2 + 1⟩ := Nat.succ_pos _
      simp only [go_sem, seval, het, decide_false]
      refine ih (i + 1, ⟨.d, n0, n1, n2 + 1⟩) _ ⟨by simp only; omega, hwn, hnx he2⟩ (by simp only; omega) ?_
      simp only [go_sem, seval, wrap_succ (show i < 9223372036854775807 by omega), hop, hdv]
  | d =>
    have hdv : deadV n2 = .dead n2 := deadV_pos hw
    simp only [go_sem, seval]
    refine ifI (fun hlt => ?_) fun hlt => ?_
    case refine_2 =>
      subst hst
      have : ix = -1 := by rw [hf, List.drop_eq_nil_of_le (by omega)]; rfl
      rw [if_neg (by omega)] at hR
      subst hR
      simp only [go_sem, seval, hlt]
    have hlt' : i < L.length := by omega
    have hdr := drop_nth hlt'
    have hs := hsrc i hlt'
    generalize hd : nth L i = d at hdr hs
    have bb := ops_bounds (L := L) (show i ≤ 60 by omega)
    obtain ⟨b1, b2, b3, b4⟩ := bb
    have heq := cap_eqB d.cap x
    have hgo : d.cap = x → ix = (i : Int) := fun e => by rw [hf, hdr, findIx, if_pos (decide_eq_true e)]
    have hnx : ¬ d.cap = x → ix = findIx (fun y : Der => decide (y.cap = x)) (L.drop (i + 1)) (i + 1) := fun e => by rw [hf, hdr, findIx, if_neg (by rw [decide_eq_false e]; decide)]
    have hfin : d.cap = x → R = .tup [.sl ((opsN L (i + 1)).map encCOp), .int .i64 0] := fun e => by
      rw [← hR, hgo e, if_pos (by omega), Int.toNat_natCast]
    simp only [go_sem, seval, hlt, hlt', hd, heq]
    refine Classical.byCases (fun k0 : d.kind = 0 => ?_) fun k0 => ?_
    · have k0t := eq_true k0
      have hop := ops_r hd k0
      simp only [go_sem, seval, k0t, decide_true, b1, b2, heq]
      refine Classical.byCases (fun he2 : d.cap = x => ?_) fun he2 => ?_
      · have het := eq_true he2
        have hRf := hfin he2
        simp only [go_sem, seval, het, decide_true]
        rw [hRf, hop]
        try exact ⟨rfl, rfl⟩
      · have het := eq_false he2
        have hwn : WOk ⟨.a, n0 + 1, n1, n2⟩ := trivial
        simp only [go_sem, seval, het, decide_false]
        refine ih (i + 1, ⟨.a, n0 + 1, n1, n2⟩) _ ⟨by simp only; omega, hwn, hnx he2⟩ (by simp only; omega) ?_
        simp only [go_sem, seval, wrap_succ (show i < 9223372036854775807 by omega), hop, hdv]
    have k0t := eq_false k0
    refine Classical.byCases (fun k1 : d.kind = 1 => ?_) fun k1 => ?_
    · have k1t := eq_true k1
      have hop := ops_a hd k0 k1
      simp only [go_sem, seval, k0t, k1t, decide_true, decide_false, b1, b2, heq]
      refine Classical.byCases (fun he2 : d.cap = x => ?_) fun he2 => ?_
      · have het := eq_true he2
        have hRf := hfin he2
        simp only [go_sem, seval, het, decide_true]
        rw [hRf, hop]
        try exact ⟨rfl, rfl⟩
      · have het := eq_false he2
        have hwn : WOk ⟨.b, n0, n1 + 1, n2⟩ := Nat.succ_pos _
        simp only [go_sem, seval, het, decide_false]
        refine ih (i + 1, ⟨.b, n0, n1 + 1, n2⟩) _ ⟨by simp only; omega, hwn, hnx he2⟩ (by simp only; omega) ?_
        simp only [go_sem, seval, wrap_succ (show i < 9223372036854775807 by omega), hop, hdv]
    have k1t := eq_false k1
    have hop := ops_s hd k0 k1
    have s1 := (hs k0).1
    have s2 := (hs k0).2
    have s3 : d.source.toNat < L.length := by omega
    simp only [go_sem, seval, k0t, k1t, decide_false, b1, b2, b3, b4, s1, s2, s3, heq]
    refine ⟨by decide +kernel, ?_⟩
    refine Classical.byCases (fun he2 : d.cap = x => ?_) fun he2 => ?_
    · have het := eq_true he2
      have hRf := hfin he2
      simp only [go_sem, seval, het, decide_true]
      rw [hRf, hop]
      try exact ⟨rfl, rfl⟩
    · have het := eq_false he2
      have hwn : WOk ⟨.d, n0, n1, n2 + 1⟩ := Nat.succ_pos _
      simp only [go_sem, seval, het, decide_false]
      refine ih (i + 1, ⟨.d, n0, n1, n2 + 1⟩) _ ⟨by simp only; omega, hwn, hnx he2⟩ (by simp only; omega) ?_
      simp only [go_sem, seval, wrap_succ (show i < 9223372036854775807 by omega), hop, hdv]
end Go.Proofs.YtbhgehhmjpipiaaGreat.C12
