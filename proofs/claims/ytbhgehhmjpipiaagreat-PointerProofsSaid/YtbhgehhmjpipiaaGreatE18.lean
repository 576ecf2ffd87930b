/- Chapter 12: the laws of proofs and of what is derived. -/
import Derived.Test.YtbhgehhmjpipiaaGreatE17
namespace Go.Proofs.YtbhgehhmjpipiaaGreat.C12
open Go Go.Proofs Go.Proofs.YtbhgehhmjpipiaaGreat.Ab Go.Proofs.YtbhgehhmjpipiaaGreat.C10
set_option maxRecDepth 100000
set_option linter.unusedSimpArgs false
set_option linter.unusedVariables false
attribute [local congr] ite_ctx

/-! ### What is derived proves itself -/
theorem some_nth {α : Type} [Inhabited α] {l : List α} {k : Nat} {y : α} (h : l[k]? = some y) : k < l.length ∧ nth l k = y := by
  have hk : k < l.length := by
    rcases Nat.lt_or_ge k l.length with q | q
    · exact q
    · rw [List.getElem?_eq_none q] at h; cases h
  refine ⟨hk, ?_⟩
  show l.getD k default = y
  rw [List.getD_eq_getElem?_getD, h]; rfl
theorem knB_of {i : Int} {n : Nat} (h : 0 ≤ i) (hn : i.toNat < n) : knB i n = true := knB_iff.2 ⟨h, by omega⟩
theorem DOk.fresh {C : CC} {l : List Der} (h : DOk C l) {n : Nat} (hn : n < l.length) : has (l.take n) (nth l n).cap = false := by
  cases hb : has (l.take n) (nth l n).cap with
  | false => rfl
  | true =>
    exfalso
    have hm := has_iff.1 hb
    have hnd := h.nodup
    rw [← List.take_append_drop n l, List.map_append, List.nodup_append] at hnd
    refine hnd.2.2 _ hm (nth l n).cap (List.mem_map.2 ⟨nth l n, ?_, rfl⟩) rfl
    rw [List.drop_eq_getElem_cons hn, nth_eq hn]
    exact List.mem_cons_self
theorem DOk.derE {C : CC} (hF : C.Fit) {l : List Der} (h : DOk C l) {n : Nat} (hn : n < l.length) : C12.derE C (nth l n) (l.take n) = 0 := by
  have hp := h.proved n hn
  have hfr := h.fresh hn
  have hk : (nth l n).cap.kind = 1 ∨ (nth l n).cap.kind = 0 := by
    rcases ((h.drv C (nth l n) (nth_mem hn)).1.form C hF.sp).2.2 with q | q
    · exact .inr q.1
    · exact .inl q.1
  have hgd : l.getD n default = nth l n := rfl
  rw [hgd] at hp
  generalize nth l n = d at hp hfr hk
  generalize l.take n = m at hp hfr
  obtain ⟨hj, ho, hw⟩ := hp
  have hkn1 : knB d.cap.job C.J = true := knB_iff.2 hj
  have hkn2 : knB d.cap.object C.O = true := knB_iff.2 ho
  have b : placeB C d.cap = true := by
    unfold placeB; rw [hkn1, hkn2]
    rcases hk with q | q <;> rw [q] <;> rfl
  have key : inB d.kind 0 2 = true ∧ extraB d = false ∧ proveB C d m = true := by
    rcases hw with ⟨k0, s0, w0, r0, c1, a0, ae⟩ | ⟨k1, w0, r0, c0, a0, y, s0, hy, hyj, hyo, hyc⟩ | ⟨k2, y, w, r, s0, w0, r0, hy, hw, hr, q1, q2, q3, q4, q5, q6, q7, q8, q9⟩
    · refine ⟨by rw [k0]; decide, by simp [extraB, k0, s0, w0, r0], ?_⟩
      unfold proveB proveA
      rw [if_pos k0, ← ae]
      simp [c1, a0]
    · obtain ⟨b1, b2⟩ := some_nth hy
      refine ⟨by rw [k1]; decide, by simp [extraB, k1, w0, r0], ?_⟩
      unfold proveB proveM
      rw [if_neg (by rw [k1]; decide), if_pos k1, knB_of s0 b1, b2]
      simp [c0, a0, hyj, hyo, hyc]
    · obtain ⟨b1, b2⟩ := some_nth hy
      obtain ⟨b3, b4⟩ := some_nth hw
      obtain ⟨b5, b6⟩ := some_nth hr
      refine ⟨by rw [k2]; decide, by simp [extraB, k2], ?_⟩
      unfold proveB proveR
      rw [if_neg (by rw [k2]; decide), if_neg (by rw [k2]; decide), knB_of s0 b1, knB_of w0 b3, knB_of r0 b5, b2, b4, b6]
      simp [q1, q2, q3, q4, q5, q6, q7, q8, q9]
  obtain ⟨a, c, e⟩ := key
  have hf : formE C d m = 0 := by
    unfold formE
    rw [if_neg (by rw [a]; decide), if_neg (by rw [b]; decide), if_neg (by rw [hfr]; decide), if_neg (by rw [c]; decide)]
  unfold C12.derE
  rw [hf, if_neg (by decide), if_pos e]
theorem scanD_ok {C : CC} {l : List Der} (h : ∀ i, i < l.length → C12.derE C (nth l i) (l.take i) = 0) : ∀ n i, i + n ≤ l.length → scanD C l n i = ((l.length : Int), 0) := by
  intro n
  induction n with
  | zero => intro i hi; rfl
  | succ n ih =>
    intro i hi
    unfold scanD
    rw [if_pos (h i (by omega))]
    exact ih (i + 1) (by omega)
theorem cdE_derive {c : Case} (h : Right c) (he : (caseE c).2 = 0) : cdE c (derive (cc c)) = (((derive (cc c)).length : Int), 0) := by
  unfold cdE
  rw [if_neg (not_not_intro he), if_neg (by have := derive_len h; omega)]
  exact scanD_ok (fun i hi => (derive_ok h).derE h.cfit hi) _ 0 (by omega)
theorem derive_rlen {c : Case} (h : Right c) : (derive (cc c)).length = (rClosure (cc c)).length := by
  have h1 := (derive_ok h).nodup
  have h2 := sorted_nodup (rClosure_done h.cfit).ok.sorted
  have a := nodup_le h1 (m := rClosure (cc c)) fun x hx => (rClosure_mem h x).2 hx
  have b := nodup_le h2 (m := (derive (cc c)).map Der.cap) fun x hx => (rClosure_mem h x).1 hx
  rw [List.length_map] at a b
  omega

/-! ### The program's derivations -/
theorem Derive_no {c : Case} (hs : Fit c.sec) (hu : c.users.length ≤ 1000) (he : ¬ (caseE c).2 = 0) : Ans Tryz.prog 22 [.agg (encCase c)] (.tup [.nils, .int .i64 (caseE c).2]) := by
  have h := caseErr_good c hs hu
  generalize (caseE c).2 = e at h he
  have het := eq_false he
  refine good_run [] mixed Tryz.func22 rfl Tryz.ntmps22 (rs := [.tmp 2, .tmp 3]) rfl (by decide +kernel) (by kernel_rfl) rfl ?_
  rw [startE_eq 12 _ _ _ rfl rfl]
  simp (maxSteps := 10000000) only [go_sem, seval]
  refine call_of (h) ?_
  simp (maxSteps := 10000000) only [go_sem, seval,  het, not_false_eq_true, decide_true]
theorem Derive_good {c : Case} (h : Right c) (he : (caseE c).2 = 0) : Ans Tryz.prog 22 [.agg (encCase c)] (.tup [.sl ((derive (cc c)).map encDer), .int .i64 0]) := by
  have hE := caseErr_good c h.fit (by have := h.J; omega)
  rw [he] at hE
  have hD := derive_good c h
  generalize derive (cc c) = L at hD
  refine good_run [] mixed Tryz.func22 rfl Tryz.ntmps22 (rs := [.tmp 2, .tmp 3]) rfl (by decide +kernel) (by kernel_rfl) rfl ?_
  rw [startE_eq 12 _ _ _ rfl rfl]
  simp (maxSteps := 10000000) only [go_sem, seval]
  refine call_of (hE) ?_
  simp (maxSteps := 10000000) only [go_sem, seval]
  refine call_of (hD) ?_
  simp (maxSteps := 10000000) only [go_sem, seval]

/-! ### The laws -/
set_option maxHeartbeats 4000000 in
theorem PointerProofs_good (c : Case) (l : List Der) : Ans Tryz.prog 6 [.agg (encCase c), .sl (l.map encDer)] (.bool true) := by
  have haw := awake_good
  have hfw := few12_good c
  cases hf : few12 c with
  | false =>
    rw [hf] at hfw
    refine good_run [] mixed Tryz.func6 rfl Tryz.ntmps6 (rs := [.tmp 4]) rfl (by decide +kernel) (by kernel_rfl) rfl ?_
    rw [startE_eq 41 _ _ _ rfl rfl]
    simp (maxSteps := 10000000) only [go_sem, seval]
    refine call_of (haw) ?_
    simp (maxSteps := 10000000) only [go_sem, seval,  Bool.not_true]
    refine call_of (hfw) ?_
    simp (maxSteps := 10000000) only [go_sem, seval,  Bool.not_true, Bool.not_false]
  | true =>
  rw [hf] at hfw
  obtain ⟨hs, hu⟩ := few12_fit hf
  refine Classical.byCases (fun hl : (l.length : Int) > 63 => ?_) fun hl => ?_
  · have hlt := eq_true hl
    refine good_run [] mixed Tryz.func6 rfl Tryz.ntmps6 (rs := [.tmp 4]) rfl (by decide +kernel) (by kernel_rfl) rfl ?_
    rw [startE_eq 41 _ _ _ rfl rfl]
    simp (maxSteps := 10000000) only [go_sem, seval]
    refine call_of (haw) ?_
    simp (maxSteps := 10000000) only [go_sem, seval,  Bool.not_true]
    refine call_of (hfw) ?_
    simp (maxSteps := 10000000) only [go_sem, seval,  Bool.not_true, Bool.not_false, hlt, decide_true]
  have hlt := eq_false hl
  have hl2 : l.length ≤ 63 := by omega
  have b1 : l.length * 64 ≤ 140737488355328 := by omega
  have b2 : l.length ≤ maxLen := by unfold maxLen; omega
  have hown := Own12_good c hs (by omega)
  have hP := CheckDer_good c hs (by omega) l (by omega)
  have hR := rCheckDer_good c hs (by omega) l (by omega)
  generalize cdE c l = R at hP hR
  refine good_run [] mixed Tryz.func6 rfl Tryz.ntmps6 (rs := [.tmp 4]) rfl (by decide +kernel) (by kernel_rfl) rfl ?_
  rw [startE_eq 41 _ _ _ rfl rfl]
  simp (maxSteps := 10000000) only [go_sem, seval]
  refine call_of (haw) ?_
  simp (maxSteps := 10000000) only [go_sem, seval,  Bool.not_true]
  refine call_of (hfw) ?_
  simp (maxSteps := 10000000) only [go_sem, seval,  Bool.not_true, Bool.not_false, hlt, decide_false]
  refine call_of (hown) ?_
  simp (maxSteps := 10000000) only [go_sem, seval,  b1, b2]
  refine call_of (hP) ?_
  simp (maxSteps := 10000000) only [go_sem, seval]
  refine call_of (hR) ?_
  simp (maxSteps := 10000000) only [go_sem, seval]
set_option maxHeartbeats 4000000 in
theorem PointerDerives_good (c : Case) : Ans Tryz.prog 5 [.agg (encCase c)] (.bool true) := by
  have haw := awake_good
  have hfw := few12_good c
  cases hf : few12 c with
  | false =>
    rw [hf] at hfw
    refine good_run [(13, [2, 44, 45, 46, 47, 48, 49, 50, 51, 52, 53, 54, 55, 56, 57], [])] mixed Tryz.func5 rfl Tryz.ntmps5 (rs := [.tmp 2]) rfl (by decide +kernel) (by kernel_rfl) rfl ?_
    rw [startE_eq 72 _ _ _ rfl rfl]
    simp (maxSteps := 10000000) only [go_sem, seval]
    refine call_of (haw) ?_
    simp (maxSteps := 10000000) only [go_sem, seval,  Bool.not_true]
    refine call_of (hfw) ?_
    simp (maxSteps := 10000000) only [go_sem, seval,  Bool.not_true, Bool.not_false]
  | true =>
  rw [hf] at hfw
  obtain ⟨hs, hu⟩ := few12_fit hf
  have hown := Own12_good c hs (by omega)
  have herr := Err12_good c hs (by omega)
  refine Classical.byCases (fun he : (caseE c).2 = 0 => ?_) fun he => ?_
  case refine_2 =>
    have hD := Derive_no hs (by omega) he
    generalize (caseE c).2 = e at hD herr he
    have het := eq_false he
    refine good_run [(13, [2, 44, 45, 46, 47, 48, 49, 50, 51, 52, 53, 54, 55, 56, 57], [])] mixed Tryz.func5 rfl Tryz.ntmps5 (rs := [.tmp 2]) rfl (by decide +kernel) (by kernel_rfl) rfl ?_
    rw [startE_eq 72 _ _ _ rfl rfl]
    simp (maxSteps := 10000000) only [go_sem, seval]
    refine call_of (haw) ?_
    simp (maxSteps := 10000000) only [go_sem, seval,  Bool.not_true]
    refine call_of (hfw) ?_
    simp (maxSteps := 10000000) only [go_sem, seval,  Bool.not_true, Bool.not_false]
    refine call_of (hown) ?_
    simp (maxSteps := 10000000) only [go_sem, seval]
    refine call_of (hD) ?_
    simp (maxSteps := 10000000) only [go_sem, seval]
    refine call_of (herr) ?_
    simp (maxSteps := 10000000) only [go_sem, seval,  het, not_false_eq_true, decide_true]
  have h := right_of hs he
  have hD := Derive_good h he
  have hR := rClosure_good c h
  have hlen := derive_rlen h
  have hmem := rClosure_mem h
  have hL := derive_len h
  have hC := rCheckDer_good c hs (by omega) (derive (cc c)) (by omega)
  rw [cdE_derive h he] at hC
  rw [he] at herr
  generalize rClosure (cc c) = R at hR hlen hmem
  generalize derive (cc c) = L at hD hlen hmem hC hL
  have hH : ∀ i, i < L.length → Ans Tryz.prog 18 [.sl (R.map encCap), .agg (encCap (nth L i).cap)] (.bool true) := fun i hi => by
    have := Has_good R (nth L i).cap (by omega)
    rwa [decide_eq_true ((hmem _).2 (List.mem_map.2 ⟨_, nth_mem hi, rfl⟩))] at this
  refine good_run [(13, [2, 44, 45, 46, 47, 48, 49, 50, 51, 52, 53, 54, 55, 56, 57], [])] mixed Tryz.func5 rfl Tryz.ntmps5 (rs := [.tmp 2]) rfl (by decide +kernel) (by kernel_rfl) rfl ?_
  rw [startE_eq 72 _ _ _ rfl rfl]
  simp (maxSteps := 10000000) only [go_sem, seval]
  refine call_of (haw) ?_
  simp (maxSteps := 10000000) only [go_sem, seval,  Bool.not_true]
  refine call_of (hfw) ?_
  simp (maxSteps := 10000000) only [go_sem, seval,  Bool.not_true, Bool.not_false]
  refine call_of (hown) ?_
  simp (maxSteps := 10000000) only [go_sem, seval]
  refine call_of (hD) ?_
  simp (maxSteps := 10000000) only [go_sem, seval]
  refine call_of (herr) ?_
  simp (maxSteps := 10000000) only [go_sem, seval]
  refine call_of (hR) ?_
  simp (maxSteps := 10000000) only [go_sem, seval,  hlen, not_true, decide_false]
  refine loop_by ([2, 44, 45, 46, 47, 48, 49, 50, 51, 52, 53, 54, 55, 56, 57], []) (fun i : Nat => [(.s 7, .int .i64 (i : Int))]) (fun i => L.length - i) (fun i => i ≤ L.length) 0 rfl (Nat.zero_le _) ?_ ?_
  · simp (maxSteps := 10000000) only [go_sem, seval]
  rintro c' st' hst i hi ih
  simp (maxSteps := 10000000) only [go_sem, seval]
  refine ifI (fun hlt => ?_) fun hlt => ?_
  · have hlt' : i < L.length := by omega
    have hh := hH i hlt'
    simp (maxSteps := 10000000) only [go_sem, seval,  hlt, hlt']
    refine call_of (hh) ?_
    simp (maxSteps := 10000000) only [go_sem, seval,  Bool.not_true]
    refine ih (i + 1) _ (by omega) (by omega) ?_
    simp (maxSteps := 10000000) only [go_sem, seval,  wrap_succ (show i < 9223372036854775807 by omega)]
  · subst hst
    simp (maxSteps := 10000000) only [go_sem, seval,  hlt]
    refine call_of (hC) ?_
    simp (maxSteps := 10000000) only [go_sem, seval]

end Go.Proofs.YtbhgehhmjpipiaaGreat.C12
