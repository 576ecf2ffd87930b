/- Chapter 12: the law of completeness. -/
import Derived.Test.YtbhgehhmjpipiaaGreatDoorH3
import Derived.Test.YtbhgehhmjpipiaaGreatDoorT7
import Derived.Test.YtbhgehhmjpipiaaGreatDoorP37c
import Derived.Test.YtbhgehhmjpipiaaGreatDoorE18
set_option linter.unusedSimpArgs false
set_option linter.unusedVariables false
namespace Go.Proofs.YtbhgehhmjpipiaaGreatDoor.C12
open Go Go.Proofs Go.Proofs.YtbhgehhmjpipiaaGreatDoor.Ab Go.Proofs.YtbhgehhmjpipiaaGreatDoor.C10
set_option maxRecDepth 100000
attribute [local congr] ite_ctx
theorem nth_some {α : Type} [Inhabited α] {l : List α} {i : Nat} (h : i < l.length) : l[i]? = some (nth l i) := by rw [List.getElem?_eq_getElem h, nth_eq h]
theorem proved_of {C : CC} {d : Der} {m : List Der} (h : C12.derE C d m = 0) : Proved C m d ∧ has m d.cap = false := by
 unfold C12.derE at h
 split at h
 · rename_i q; exact absurd h q
 rename_i q
 have hf := Classical.not_not.1 q
 split at h
 case isFalse => cases h
 rename_i hp
 unfold formE at hf
 split at hf
 · cases hf
 rename_i a1
 split at hf
 · cases hf
 rename_i a2
 split at hf
 · cases hf
 rename_i a3
 split at hf
 · cases hf
 rename_i a4
 have b1 : inB d.kind 0 2 = true := by simpa using a1
 have b2 : placeB C d.cap = true := by simpa using a2
 have b3 : has m d.cap = false := by simpa using a3
 have b4 : extraB d = false := by simpa using a4
 have k3 : 0 ≤ d.kind ∧ d.kind ≤ 2 := by unfold inB at b1; exact of_decide_eq_true b1
 unfold placeB at b2
 simp only [Bool.and_eq_true] at b2
 obtain ⟨⟨p1, p2⟩, p3⟩ := b2
 refine ⟨⟨knB_iff.1 p1, knB_iff.1 p2, ?_⟩, b3⟩
 have hk : d.kind = 0 ∨ d.kind = 1 ∨ d.kind = 2 := by omega
 unfold proveB at hp
 rcases hk with k | k | k
 · rw [if_pos k] at hp
   simp [proveA] at hp
   simp [extraB, k] at b4
   exact .inl ⟨k, b4.2, b4.1.1, b4.1.2, hp.1.1, hp.1.2, hp.2⟩
 · rw [if_neg (by omega), if_pos k] at hp
   simp [proveM] at hp
   simp [extraB, k] at b4
   obtain ⟨s1, s2⟩ := knB_iff.1 hp.1
   obtain ⟨⟨⟨⟨c1, c2⟩, c3⟩, c4⟩, c5⟩ := hp.2
   exact .inr (.inl ⟨k, b4.1, b4.2, c1, c2, _, s1, nth_some (by omega), c3, c4, c5⟩)
 · rw [if_neg (by omega), if_neg (by omega)] at hp
   simp [proveR] at hp
   obtain ⟨⟨⟨h1, h2⟩, h3⟩, hr⟩ := hp
   obtain ⟨s1, s2⟩ := knB_iff.1 h1
   obtain ⟨w1, w2⟩ := knB_iff.1 h2
   obtain ⟨r1, r2⟩ := knB_iff.1 h3
   obtain ⟨⟨⟨⟨⟨⟨⟨⟨q1, q2⟩, q3⟩, q4⟩, q5⟩, q6⟩, q7⟩, q8⟩, q9⟩ := hr
   exact .inr (.inr ⟨k, _, _, _, s1, w1, r1, nth_some (by omega), nth_some (by omega), nth_some (by omega), q1, q2, q3, q4, q5, q6, q7, q8, q9⟩)
theorem dok_of {C : CC} {l : List Der} (h : ∀ i, i < l.length → C12.derE C (nth l i) (l.take i) = 0) : ∀ n, n ≤ l.length → DOk C (l.take n)
 | 0, _ => by rw [List.take_zero]; exact .nil
 | n + 1, hn => by
   obtain ⟨h1, h2⟩ := proved_of (h n (by omega))
   rw [take_snoc (by omega)]
   refine .snoc (dok_of h n (by omega)) h1 fun q => ?_
   rw [has_iff.2 q] at h2; cases h2
theorem scanD_all {C : CC} {l : List Der} : ∀ {n i : Nat}, (scanD C l n i).2 = 0 → ∀ k, i ≤ k → k < i + n → C12.derE C (nth l k) (l.take k) = 0
 | 0, i, h, k, h1, h2 => by omega
 | n + 1, i, h, k, h1, h2 => by
   unfold scanD at h
   split at h
   · rename_i e
     by_cases hk : k = i
     · subst hk; exact e
     · exact scanD_all (n := n) (i := i + 1) h k (by omega) (by omega)
   · rename_i e; exact absurd h e
theorem rclosure_all {c : Case} (h : Right c) {x : Cap} (hx : Drv (cc c) x) : x ∈ rClosure (cc c) := by
 have R := rClosure_done h.cfit
 exact (rClosed_of (cc c) R.seed R.stop).all (cc c) hx
theorem accepted {c : Case} (h : Right c) (he : (caseE c).2 = 0) {l : List Der} (hl : l.length ≤ 60) (hc : (cdE c l).2 = 0) : ∀ i, i < l.length → (nth l i).cap ∈ rClosure (cc c) := fun i hi => by
 unfold cdE at hc
 rw [if_neg (not_not_intro he), if_neg (by omega)] at hc
 have hd := dok_of (C := cc c) (l := l) (fun k hk => scanD_all hc k (Nat.zero_le _) (by omega)) l.length (Nat.le_refl _)
 rw [List.take_length] at hd
 exact rclosure_all h (hd.drv _ (nth l i) (nth_mem hi)).1
theorem fewO_ops (L : List Der) (n : Nat) (hn : n ≤ 60) : fewO (opsN L n) = true := by
 have h := opsN_len L n
 unfold fewO
 rw [decide_eq_true (by omega), Bool.true_and]
 exact List.all_eq_true.2 fun o ho => decide_eq_true (by have := opsN_data n o ho; omega)
set_option maxHeartbeats 16000000 in
theorem PointerComplete_good (c : Case) (l : List Der) : Ans Tryz.prog 4 [.agg (encCase c), .sl (l.map encDer)] (.bool true) := by
 have haw := awake_good
 have hfw := few12_good c
 cases hf : few12 c with
 | false =>
   rw [hf] at hfw
   refine good_run [(28, [4, 147, 148, 149, 150, 151, 152, 153, 154, 155, 156, 157, 158, 159, 160], []), (13, [4, 12, 13, 14, 15, 16, 17, 18, 81, 82, 83, 84, 85, 86, 87, 88, 89, 90, 91, 92, 93, 94, 95, 96, 97, 98, 99, 100, 101, 102, 103, 104, 105, 106, 107, 108, 109, 110, 111, 112, 113, 114, 115, 116, 117, 118, 119, 120, 121, 122, 123, 124, 125, 126, 127, 128, 129, 130, 131, 132, 133, 134, 135, 136], [14, 14])] mixed Tryz.func4 rfl Tryz.ntmps4 (rs := [.tmp 4]) rfl (by decide +kernel) (by kernel_rfl) rfl ?_
   rw [startE_eq 161 _ _ _ rfl rfl]
   simp only [go_sem, seval]
   refine call_of (haw) ?_
   simp only [go_sem, seval, Bool.not_true]
   refine call_of (hfw) ?_
   simp only [go_sem, seval, Bool.not_true, Bool.not_false]
 | true =>
 rw [hf] at hfw
 obtain ⟨hs, hu⟩ := few12_fit hf
 refine Classical.byCases (fun h60 : (l.length : Int) > 60 => ?_) fun h60 => ?_
 · have h60t := eq_true h60
   refine good_run [(28, [4, 147, 148, 149, 150, 151, 152, 153, 154, 155, 156, 157, 158, 159, 160], []), (13, [4, 12, 13, 14, 15, 16, 17, 18, 81, 82, 83, 84, 85, 86, 87, 88, 89, 90, 91, 92, 93, 94, 95, 96, 97, 98, 99, 100, 101, 102, 103, 104, 105, 106, 107, 108, 109, 110, 111, 112, 113, 114, 115, 116, 117, 118, 119, 120, 121, 122, 123, 124, 125, 126, 127, 128, 129, 130, 131, 132, 133, 134, 135, 136], [14, 14])] mixed Tryz.func4 rfl Tryz.ntmps4 (rs := [.tmp 4]) rfl (by decide +kernel) (by kernel_rfl) rfl ?_
   rw [startE_eq 161 _ _ _ rfl rfl]
   simp only [go_sem, seval]
   refine call_of (haw) ?_
   simp only [go_sem, seval, Bool.not_true]
   refine call_of (hfw) ?_
   simp only [go_sem, seval, Bool.not_true, Bool.not_false, h60t, decide_true]
 have h60t := eq_false h60
 have hown := Own12_good c hs (by omega)
 have herr := Err12_good c hs (by omega)
 refine Classical.byCases (fun he : (caseE c).2 = 0 => ?_) fun he => ?_
 case refine_2 =>
  generalize (caseE c).2 = e at herr he
  have het := eq_false he
  refine good_run [(28, [4, 147, 148, 149, 150, 151, 152, 153, 154, 155, 156, 157, 158, 159, 160], []), (13, [4, 12, 13, 14, 15, 16, 17, 18, 81, 82, 83, 84, 85, 86, 87, 88, 89, 90, 91, 92, 93, 94, 95, 96, 97, 98, 99, 100, 101, 102, 103, 104, 105, 106, 107, 108, 109, 110, 111, 112, 113, 114, 115, 116, 117, 118, 119, 120, 121, 122, 123, 124, 125, 126, 127, 128, 129, 130, 131, 132, 133, 134, 135, 136], [14, 14])] mixed Tryz.func4 rfl Tryz.ntmps4 (rs := [.tmp 4]) rfl (by decide +kernel) (by kernel_rfl) rfl ?_
  rw [startE_eq 161 _ _ _ rfl rfl]
  simp only [go_sem, seval]
  refine call_of (haw) ?_
  simp only [go_sem, seval, Bool.not_true]
  refine call_of (hfw) ?_
  simp only [go_sem, seval, Bool.not_true, Bool.not_false, h60t, decide_false]
  refine call_of (herr) ?_
  simp only [go_sem, seval, het, not_false_eq_true, decide_true]
 rw [he] at herr
 have h := right_of hs he
 have hC := Closure_good h he
 have hD := Derive_good h he
 have hdl := derive_len h
 have hlen := derive_rlen h
 have hA := CheckDer_good c hs (by omega) (derive (cc c)) (by omega)
 rw [cdE_derive h he] at hA
 have hB := CheckDer_good c hs (by omega) l (by omega)
 have hacc : (cdE c l).2 = 0 → ∀ i, i < l.length → (nth l i).cap ∈ rClosure (cc c) := fun hc => accepted h he (by omega) hc
 have hW : ∀ i, i < (rClosure (cc c)).length → ∃ n, n < (derive (cc c)).length ∧ (nth (derive (cc c)) n).cap = nth (rClosure (cc c)) i ∧ Ans Tryz.prog 23 [.agg (encCase c), .agg (encCap (nth (rClosure (cc c)) i))] (.tup [.sl ((opsN (derive (cc c)) (n + 1)).map encCOp), .int .i64 0]) := fun i hi => by
  have hx := wIx_mem ((rClosure_mem h _).1 (nth_mem hi))
  have hw := Witness_good h he (nth (rClosure (cc c)) i)
  rw [if_pos hx.1] at hw
  exact ⟨_, hx.2.1, hx.2.2, hw⟩
 have hRun : ∀ n, n < (derive (cc c)).length → ∀ x, (nth (derive (cc c)) n).cap = x → StV (cc c) (runGo (cc c) (startS (cc c)) (opsN (derive (cc c)) (n + 1))) ∧ x ∈ rHeld (runGo (cc c) (startS (cc c)) (opsN (derive (cc c)) (n + 1))) := fun n hn x hx => by
  obtain ⟨hI, -⟩ := wit_run h.aut (derive_ok h) hdl (n + 1) hn
  refine ⟨hI.ok, ?_⟩
  rw [rHeld_mem, hI.ok.nj, ← hx]
  exact wit_holds h.aut (derive_ok h) hdl (n := n) hn
 generalize hRdef : rClosure (cc c) = R at hC hlen hW hacc
 have hR60 : R.length ≤ 60 := by omega
 have b1 : (derive (cc c)).length * 64 ≤ 140737488355328 := by omega
 have b2 : (derive (cc c)).length ≤ maxLen := by unfold maxLen; omega
 have b3 : l.length * 64 ≤ 140737488355328 := by omega
 have b4 : l.length ≤ maxLen := by unfold maxLen; omega
 generalize hLdef : derive (cc c) = L at hD hdl hlen hA hW hRun b1 b2
 have n1 := eq_false (show ¬ ¬ (L.length : Int) = (R.length : Int) by omega)
 have n2 := eq_false (show ¬ (R.length : Int) > 60 by omega)
 have n3 : ((L.length : Int) = (R.length : Int)) = True := eq_true (by omega)
 generalize hcd : cdE c l = Q at hB hacc
 refine good_run [(28, [4, 147, 148, 149, 150, 151, 152, 153, 154, 155, 156, 157, 158, 159, 160], []), (13, [4, 12, 13, 14, 15, 16, 17, 18, 81, 82, 83, 84, 85, 86, 87, 88, 89, 90, 91, 92, 93, 94, 95, 96, 97, 98, 99, 100, 101, 102, 103, 104, 105, 106, 107, 108, 109, 110, 111, 112, 113, 114, 115, 116, 117, 118, 119, 120, 121, 122, 123, 124, 125, 126, 127, 128, 129, 130, 131, 132, 133, 134, 135, 136], [14, 14])] mixed Tryz.func4 rfl Tryz.ntmps4 (rs := [.tmp 4]) rfl (by decide +kernel) (by kernel_rfl) rfl ?_
 rw [startE_eq 161 _ _ _ rfl rfl]
 simp only [go_sem, seval]
 refine call_of (haw) ?_
 simp only [go_sem, seval, Bool.not_true]
 refine call_of (hfw) ?_
 simp only [go_sem, seval, Bool.not_true, Bool.not_false, h60t, decide_false]
 refine call_of (herr) ?_
 simp only [go_sem, seval]
 refine call_of (hown) ?_
 simp only [go_sem, seval]
 refine call_of (hC) ?_
 simp only [go_sem, seval]
 refine call_of (hown) ?_
 simp only [go_sem, seval]
 refine call_of (hD) ?_
 simp only [go_sem, seval, n3, n2, not_true_eq_false, decide_false]
 refine call_of (hown) ?_
 simp only [go_sem, seval, b1, b2]
 refine call_of (hA) ?_
 simp only [go_sem, seval, not_true_eq_false, decide_false]
 refine loop_by ([4, 12, 13, 14, 15, 16, 17, 18, 81, 82, 83, 84, 85, 86, 87, 88, 89, 90, 91, 92, 93, 94, 95, 96, 97, 98, 99, 100, 101, 102, 103, 104, 105, 106, 107, 108, 109, 110, 111, 112, 113, 114, 115, 116, 117, 118, 119, 120, 121, 122, 123, 124, 125, 126, 127, 128, 129, 130, 131, 132, 133, 134, 135, 136], [14, 14]) (fun i : Nat => [(.s 11, .int .i64 (i : Int)), (.o 14, deadV i)]) (fun i => R.length - i) (fun i => i ≤ R.length) 0 rfl (Nat.zero_le _) rfl ?_
 rintro c' st' hst i hi ih
 simp only [go_sem, seval]
 refine ifI (fun hlt => ?_) fun hlt => ?_
 · have hlt' : i < R.length := by omega
   obtain ⟨n, hn, hxe, hw⟩ := hW i hlt'
   obtain ⟨hv, hmem⟩ := hRun n hn _ hxe
   have hFo := fewO_good (opsN L (n + 1))
   rw [fewO_ops L (n + 1) (by omega)] at hFo
   have hol := opsN_len L (n + 1)
   have hRn := Run_good h he hs (opsN L (n + 1)) (by omega) (fun o ho => by have := opsN_data (n + 1) o ho; omega)
   generalize opsN L (n + 1) = ops at hw hFo hRn hv hmem
   generalize runGo (cc c) (startS (cc c)) ops = S at hRn hv hmem
   generalize errsGo (cc c) (startS (cc c)) ops = E at hRn
   have hfS := fewState_good S
   rw [stv_few h hv] at hfS
   have hH := HeldIn_good hs (by omega) (few_small (stv_few h hv)) (ste_of he hv)
   have hHas := Has_good (rHeld S) (nth R i) (held_len (jobs_ok h hv))
   rw [decide_eq_true hmem] at hHas
   generalize rHeld S = A at hH hHas
   simp only [go_sem, seval, hlt, hlt']
   refine callD_of (hown) ?_
   simp only [go_sem, seval, hlt, hlt']
   refine callD_of (hw) ?_
   simp only [go_sem, seval]
   refine ⟨by decide +kernel, ?_⟩
   refine call_of (hFo) ?_
   simp only [go_sem, seval, Bool.not_true]
   refine call_of (hown) ?_
   simp only [go_sem, seval]
   refine call_of (hRn) ?_
   simp only [go_sem, seval]
   refine call_of (hfS) ?_
   simp only [go_sem, seval, Bool.not_true]
   refine callD_of (hown) ?_
   simp only [go_sem, seval]
   refine callD_of (hH) ?_
   simp only [go_sem, seval]
   refine ⟨by decide +kernel, ?_⟩
   simp only [go_sem, seval, hlt, hlt']
   refine call_of (hHas) ?_
   simp only [go_sem, seval, Bool.not_true]
   refine ih (i + 1) _ (by omega) (by omega) ?_
   simp only [go_sem, seval, wrap_succ (show i < 9223372036854775807 by omega)]
 · subst hst
   refine Classical.byCases (fun hz : Q.2 = 0 => ?_) fun hz => ?_
   case refine_2 =>
    have hzt := eq_false hz
    simp only [go_sem, seval, hlt]
    refine call_of (hown) ?_
    simp only [go_sem, seval, b3, b4]
    refine call_of (hB) ?_
    simp only [go_sem, seval, hzt, not_false_eq_true, decide_true]
   have hzt := eq_true hz
   have hac := hacc hz
   simp only [go_sem, seval, hlt]
   refine call_of (hown) ?_
   simp only [go_sem, seval, b3, b4]
   refine call_of (hB) ?_
   simp only [go_sem, seval, hzt, not_true_eq_false, decide_false]
   refine loop_by ([4, 147, 148, 149, 150, 151, 152, 153, 154, 155, 156, 157, 158, 159, 160], []) (fun i : Nat => [(.s 19, .int .i64 (i : Int))]) (fun i => l.length - i) (fun i => i ≤ l.length) 0 rfl (Nat.zero_le _) rfl ?_
   rintro c2 st2 hst2 k hk ih2
   simp only [go_sem, seval]
   refine ifI (fun hlk => ?_) fun hlk => ?_
   · have hlk' : k < l.length := by omega
     have hHas := Has_good R (nth l k).cap (by omega)
     rw [decide_eq_true (hac k hlk')] at hHas
     simp only [go_sem, seval, hlk, hlk']
     refine call_of (hHas) ?_
     simp only [go_sem, seval, Bool.not_true]
     refine ih2 (k + 1) _ (by omega) (by omega) ?_
     simp only [go_sem, seval, wrap_succ (show k < 9223372036854775807 by omega)]
   · subst hst2
     simp only [go_sem, seval, hlk]
end Go.Proofs.YtbhgehhmjpipiaaGreatDoor.C12
