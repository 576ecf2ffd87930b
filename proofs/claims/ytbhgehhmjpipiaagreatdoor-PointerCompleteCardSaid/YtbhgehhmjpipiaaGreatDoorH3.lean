/- Chapter 12: what the jobs hold, by the reference and by the program; capabilities in order of those that may stand twice; the law of what is held. -/
import Derived.Test.YtbhgehhmjpipiaaGreatDoorG9a
import Derived.Test.YtbhgehhmjpipiaaGreatDoorP37e
import Derived.Test.YtbhgehhmjpipiaaGreatDoorU1
set_option linter.unusedSimpArgs false
set_option linter.unusedVariables false
namespace Go.Proofs.YtbhgehhmjpipiaaGreatDoor.C12
open Go Go.Proofs Go.Proofs.YtbhgehhmjpipiaaGreatDoor.Ab Go.Proofs.YtbhgehhmjpipiaaGreatDoor.C10
set_option maxRecDepth 100000
attribute [local congr] ite_ctx
theorem view_eq (s : Stg) (k : Nat) : s.view k = if nth s.tags k = true then some (ptrIn (quadB s.bytes k)).1 else none := rfl
theorem ptrP_go (s : Stg) : ∀ n k, ptrP s k ++ ptrsGo s n k = ptrP s (k + n)
 | 0, k => by simp [ptrsGo]
 | n + 1, k => by
   have hs : ptrP s (k + 1) = ptrP s k ++ (match s.view k with | some p => [p] | none => []) := by
    rw [view_eq]
    cases ht : nth s.tags k with
    | true => unfold ptrP; rw [tagK_yes ht, List.map_append]; rfl
    | false => unfold ptrP; rw [tagK_no ht, if_neg (by decide), List.append_nil]
   have h := ptrP_go s n (k + 1)
   rw [hs] at h
   rw [ptrsGo, ← List.append_assoc]
   refine Eq.trans h ?_
   congr 1; omega
theorem ptrP_all (s : Stg) : ptrP s s.tags.length = ptrsL s := by
 have h := ptrP_go s s.tags.length 0
 rw [Nat.zero_add] at h
 rw [← h]; rfl
theorem heldGo_drop {l : List Stg} {i j : Nat} (h : i < l.length) : heldGo (l.drop i) j = (ptrsL (nth l i)).map (capOf j) ++ heldGo (l.drop (i + 1)) (j + 1) := by
 rw [drop_nth h]; rfl
structure JobsOk (s : St) : Prop where
 jobs : s.jobs.length ≤ 12
 job : ∀ x ∈ s.jobs, SOk x
set_option maxHeartbeats 8000000 in
theorem rHeld_good (s : St) (hs : JobsOk s) : Ans Tryz.prog 19 [.agg (encSt s)] (.sl ((rHeld s).map encCap)) := by
 have hJ := hs.jobs
 have hdef : rHeld s = putAll [] (heldGo (s.jobs.drop 0) 0) := rfl
 generalize rHeld s = R at hdef
 refine good_run [(3000002, [], [104000000000000000000003]), (7, [7, 8, 22, 23, 24, 25, 26, 27, 28, 29, 30, 31, 32, 33, 34, 35, 36, 37, 38, 39, 40, 41, 42, 43, 44, 45, 46, 47, 48, 49, 50, 51, 52], [7]), (3, [5, 6, 7, 8, 9, 10, 11, 12, 13, 14, 15, 16, 17, 18, 19, 20, 21, 22, 23, 24, 25, 26, 27, 28, 29, 30, 31, 32, 33, 34, 35, 36, 37, 38, 39, 40, 41, 42, 43, 44, 45, 46, 47, 48, 49, 50, 51, 52], [7])] mixed Tryz.func19 rfl Tryz.ntmps19 (rs := [.tmp 2]) rfl (by decide +kernel) (by kernel_rfl) rfl ?_
 rw [startE_eq 54 _ _ _ rfl rfl]
 simp only [go_sem, seval]
 refine loop_by ([5, 6, 7, 8, 9, 10, 11, 12, 13, 14, 15, 16, 17, 18, 19, 20, 21, 22, 23, 24, 25, 26, 27, 28, 29, 30, 31, 32, 33, 34, 35, 36, 37, 38, 39, 40, 41, 42, 43, 44, 45, 46, 47, 48, 49, 50, 51, 52], [7]) (fun z : Nat × Nat × List Cap => [(.s 4, .int .i64 (z.1 : Int)), (.s 3, .sl (z.2.2.map encCap)), (.o 7, deadV z.2.1)]) (fun z => s.jobs.length - z.1) (fun z => z.1 ≤ s.jobs.length ∧ z.2.2.length ≤ 64 * z.1 ∧ R = putAll z.2.2 (heldGo (s.jobs.drop z.1) z.1)) (0, 0, []) rfl ⟨Nat.zero_le _, Nat.zero_le _, hdef⟩ ?_ ?_
 · simp only [go_sem, seval]
 rintro c' st' hst ⟨i, m, l⟩ ⟨hi, hll, hf⟩ ih
 simp only at hi hll hf ih ⊢
 simp only [go_sem, seval]
 refine ifI (fun hlt => ?_) fun hlt => ?_
 case refine_2 =>
  subst hst
  have hR : R = l := by rw [hf, List.drop_eq_nil_of_le (by omega)]; rfl
  subst hR
  simp only [go_sem, seval, hlt]
 have hlt' : i < s.jobs.length := by omega
 have hok := hs.job _ (nth_mem hlt')
 have hxm := hok.small
 have hPt := rPointers_good (nth s.jobs i) (by omega)
 rw [heldGo_drop hlt', putAll_app, ← ptrP_all] at hf
 generalize hx : nth s.jobs i = x at hok hxm hPt hf
 have hKl := tagK_len x x.tags.length
 have hAl : (atsL x x.tags.length).length = (tagK x x.tags.length).length := List.length_map ..
 have hPl : (ptrP x x.tags.length).length = (tagK x x.tags.length).length := List.length_map ..
 have hAt : ∀ j, j < (tagK x x.tags.length).length → nth (atsL x x.tags.length) j = ((16 * nth (tagK x x.tags.length) j : Nat) : Int) := fun j hj => nth_map' _ hj
 have hPe : ∀ j, j < (tagK x x.tags.length).length → nth (ptrP x x.tags.length) j = (ptrIn (quadB x.bytes (nth (tagK x x.tags.length) j))).1 := fun j hj => nth_map' _ hj
 have hK : ∀ j, j < (tagK x x.tags.length).length → nth (tagK x x.tags.length) j < x.tags.length ∧ nth x.tags (nth (tagK x x.tags.length) j) = true := fun j hj => tagK_mem.1 (nth_mem hj)
 generalize atsL x x.tags.length = A at hPt hAl hAt
 generalize ptrP x x.tags.length = P at hf hPl hPe
 generalize tagK x x.tags.length = K at hAl hPl hAt hPe hK hKl
 simp only [go_sem, seval, hlt, hlt', hx]
 refine call_of (hPt) ?_
 simp only [go_sem, seval]
 have ihh := show id _ from ih
 clear ih
 refine loop_by ([7, 8, 22, 23, 24, 25, 26, 27, 28, 29, 30, 31, 32, 33, 34, 35, 36, 37, 38, 39, 40, 41, 42, 43, 44, 45, 46, 47, 48, 49, 50, 51, 52], [7]) (fun z : Nat × Nat × List Cap => [(.s 6, .int .i64 (z.1 : Int)), (.s 3, .sl (z.2.2.map encCap)), (.o 7, deadV z.2.1)]) (fun z => A.length - z.1) (fun z => z.1 ≤ A.length ∧ z.2.2.length ≤ 64 * i + z.1 ∧ R = putAll (putAll z.2.2 ((P.drop z.1).map (capOf i))) (heldGo (s.jobs.drop (i + 1)) (i + 1))) (0, m, l) rfl ⟨Nat.zero_le _, by simp only; omega, hf⟩ ?_ ?_
 · simp only [go_sem, seval]
 rintro c2 st2 hst2 ⟨j, mm, n⟩ ⟨hj, hnl, hf2⟩ ih2
 simp only at hj hnl hf2 ih2 ⊢
 simp only [go_sem, seval]
 refine ifI (fun hlj => ?_) fun hlj => ?_
 case refine_2 =>
  subst hst2
  have hR : R = putAll n (heldGo (s.jobs.drop (i + 1)) (i + 1)) := by rw [hf2, List.drop_eq_nil_of_le (by omega)]; rfl
  simp only [go_sem, seval, hlj]
  refine ihh (i + 1, mm, n) _ ⟨by simp only; omega, by simp only; omega, hR⟩ (by simp only; omega) ?_
  simp only [go_sem, seval, wrap_succ (show i < 9223372036854775807 by omega)]
 have hlj' : j < A.length := by omega
 have hjK : j < K.length := by omega
 have hAj := hAt j hjK
 have hPj := hPe j hjK
 obtain ⟨hk1, hk2⟩ := hK j hjK
 have hld := rLoad_good x hok (nth K j) hk1 hk2
 have hpe := ptrE_ok.1 (ptrIn_err (hok.ptr _ hk1 hk2))
 rw [← hPj] at hld hpe
 rw [drop_nth (show j < P.length by omega), List.map_cons, putAll] at hf2
 generalize nth P j = p at hld hpe hf2
 generalize ((16 * nth K j : Nat) : Int) = at' at hAj hld
 have hput := put_good n (capOf i p) (by omega)
 have hlen : (put n (capOf i p)).length ≤ n.length + 1 := by
  unfold put; split
  · omega
  · rw [putGo_len]; exact Nat.le_refl _
 have hce : encCap (capOf i p) = [.int .i64 (i : Int), .int .i64 (p.seg - 1), .int .i64 p.kind, .int .i64 p.auth] := rfl
 rw [hce] at hput
 have w9 : IntKind.wrap .i64 (p.seg - 1) = p.seg - 1 := wrap_i64 (by omega) (by omega)
 generalize put n (capOf i p) = n' at hput hlen hf2
 simp only [go_sem, seval, hlj, hlj', hlt, hlt', hx, hAj]
 refine callD_of (hld) ?_
 simp only [go_sem, seval]
 refine ⟨by decide +kernel, ?_⟩
 simp only [go_sem, seval, w9]
 refine call_of (hput) ?_
 simp only [go_sem, seval]
 refine ih2 (j + 1, mm + 1, n') _ ⟨by simp only; omega, by simp only; omega, hf2⟩ (by simp only; omega) ?_
 simp only [go_sem, seval, wrap_succ (show j < 9223372036854775807 by omega)]
set_option maxRecDepth 100000
theorem compactAux_snoc : ∀ (l : List Cap) (a x : Cap), compactAux a (l ++ [x]) = compactAux a l ++ (if x = l.getLastD a then [] else [x])
 | [], a, x => rfl
 | b :: l, a, x => by
   have e : (b :: l).getLastD a = l.getLastD b := by cases l <;> rfl
   rw [List.cons_append, compactAux, compactAux, e]
   split
   · rename_i q
     subst q
     exact compactAux_snoc l _ x
   · rw [compactAux_snoc l b x]; rfl
theorem last_nth : ∀ (t : List Cap) (a : Cap), t.getLastD a = nth (a :: t) t.length
 | [], a => rfl
 | b :: t, a => by
   have e : (b :: t).getLastD a = t.getLastD b := by cases t <;> rfl
   rw [e, last_nth t b]; rfl
theorem compact_snoc {l : List Cap} (h : 0 < l.length) (x : Cap) : compact (l ++ [x]) = compact l ++ (if x = nth l (l.length - 1) then [] else [x]) := by
 cases l with
 | nil => exact absurd h (by simp)
 | cons a t =>
   rw [List.cons_append, compact, compact, compactAux_snoc, last_nth]; rfl
theorem nth_take' {l : List Cap} {m j : Nat} (h : j < m) : nth (l.take m) j = nth l j := by
 show (l.take m).getD j default = l.getD j default
 simp [List.getD_eq_getElem?_getD, List.getElem?_take, h]
theorem compact_take {l : List Cap} {m : Nat} (h1 : 1 ≤ m) (h : m < l.length) : compact (l.take (m + 1)) = compact (l.take m) ++ (if nth l m = nth l (m - 1) then [] else [nth l m]) := by
 rw [← take_snoc h, compact_snoc (by rw [List.length_take]; omega), show (l.take m).length - 1 = m - 1 by rw [List.length_take]; omega, nth_take' (by omega)]
theorem compactAux_len : ∀ (l : List Cap) (a : Cap), (compactAux a l).length ≤ l.length
 | [], a => Nat.le_refl _
 | b :: l, a => by
   rw [compactAux]
   split
   · have := compactAux_len l a; simp only [List.length_cons]; omega
   · have := compactAux_len l b; simp only [List.length_cons]; omega
theorem compact_len (l : List Cap) : (compact l).length ≤ l.length := by
 cases l with
 | nil => exact Nat.le_refl _
 | cons a t => have := compactAux_len t a; simp only [compact, List.length_cons]; omega
theorem first_of {P : Nat → Prop} : ∀ n, (∃ k, k < n ∧ P k) → ∃ k, k < n ∧ P k ∧ ∀ j, j < k → ¬ P j
 | 0, ⟨k, h, _⟩ => absurd h (Nat.not_lt_zero _)
 | n + 1, ⟨k, h, hp⟩ => by
   refine Classical.byCases (fun q : ∃ k, k < n ∧ P k => ?_) fun q => ?_
   · obtain ⟨j, h1, h2, h3⟩ := first_of n q
     exact ⟨j, by omega, h2, h3⟩
   · exact ⟨k, h, hp, fun j hj hpj => q ⟨j, by omega, hpj⟩⟩
theorem SortedM (l : List SCap) (h0 : 0 < l.length) (hl : l.length ≤ 1000000) : AnsM Tryz.prog 85 12 [] [.fn 130 [.ptr [.sl ((l.map Subtype.val).map encCap)]], .fn 87 []] (.ref 7 1) [(7, .obj 1 53 4 false true ((sortC l).map encCap))] := by
 have h1 := CollectM (l.map Subtype.val) (by rw [List.length_map]; exact h0) (by rw [List.length_map]; exact hl)
 have h2 := SortC l h0 hl
 generalize (l.map Subtype.val).map encCap = rows at h1 h2
 refine goodM_run [] mixed Tryz.func85 rfl Tryz.ntmps85 (rs := [.tmp 4]) rfl (by decide +kernel) (by kernel_rfl) ?_
 rw [startM_eq 12 _ _ _ _ rfl rfl]
 simp only [go_sem, seval]
 refine callM_of [] [7] (h1) ⟨rfl, rfl, rfl, by simp, by simp, by simp, by simp, rfl, rfl, rfl, onodup_of (l := [9]) rfl (by decide)⟩ ?_
 simp only [go_sem, seval]
 refine callM_of [7] [7] (h2) ⟨by simp [renA, ren1, invM, posOf, verOf, AV.cellP, Env.go], rfl, rfl, by simp, by simp, by simp, by simp, rfl, rfl, rfl, onodup_of (l := [2]) rfl (by decide)⟩ ?_
 simp only [go_sem, seval]
 simp
set_option maxHeartbeats 8000000 in
theorem CompactM_no (l : List Cap) (hl : l.length ≤ 1000000) (h : NoAdj l) : AnsM Tryz.prog 84 61 [.obj 1 53 4 false true (l.map encCap)] [.ref 61 1] (.ref 61 1) [(61, .obj 1 53 4 false true (l.map encCap))] := by
 refine Classical.byCases (fun h2 : (l.length : Int) < 2 => ?_) fun h2 => ?_
 · have h2t : ((l.length : Int) < 2) = True := eq_true h2
   refine goodM_run [(9, [29, 30, 31, 32, 33, 34, 35, 36, 37, 38, 39, 40, 41, 42, 43, 44, 45, 46, 47, 48, 49, 50, 51, 52, 53], []), (4, [2, 4, 5, 10, 11, 12, 13, 14, 15, 16, 17, 18, 19, 20, 21, 22, 23, 24, 25, 26, 27, 28, 29, 30, 31, 32, 33, 34, 35, 36, 37, 38, 39, 40, 41, 42, 43, 44, 45, 46, 47, 48, 49, 50, 51, 52, 53, 54, 55, 56, 57, 58, 59], [])] mixed Tryz.func84 rfl Tryz.ntmps84 (rs := [.tmp 2]) rfl (show wfCode 62 _ = true by decide +kernel) (by kernel_rfl) ?_
   rw [startM_eq 61 _ _ _ _ rfl rfl]
   simp only [go_sem, seval, h2t]
   simp
 have h2t : ((l.length : Int) < 2) = False := eq_false h2
 refine goodM_run [(9, [29, 30, 31, 32, 33, 34, 35, 36, 37, 38, 39, 40, 41, 42, 43, 44, 45, 46, 47, 48, 49, 50, 51, 52, 53], []), (4, [2, 4, 5, 10, 11, 12, 13, 14, 15, 16, 17, 18, 19, 20, 21, 22, 23, 24, 25, 26, 27, 28, 29, 30, 31, 32, 33, 34, 35, 36, 37, 38, 39, 40, 41, 42, 43, 44, 45, 46, 47, 48, 49, 50, 51, 52, 53, 54, 55, 56, 57, 58, 59], [])] mixed Tryz.func84 rfl Tryz.ntmps84 (rs := [.tmp 2]) rfl (show wfCode 62 _ = true by decide +kernel) (by kernel_rfl) ?_
 rw [startM_eq 61 _ _ _ _ rfl rfl]
 simp only [go_sem, seval, h2t]
 refine loop_by ([2, 4, 5, 10, 11, 12, 13, 14, 15, 16, 17, 18, 19, 20, 21, 22, 23, 24, 25, 26, 27, 28, 29, 30, 31, 32, 33, 34, 35, 36, 37, 38, 39, 40, 41, 42, 43, 44, 45, 46, 47, 48, 49, 50, 51, 52, 53, 54, 55, 56, 57, 58, 59], []) (fun i : Nat => [(.s 3, .int .i64 ((i + 1 : Nat) : Int))]) (fun i => l.length - i) (fun i => i + 1 ≤ l.length) 0 rfl (by omega) rfl ?_
 rintro c' st' hst i hi ih
 simp only [go_sem, seval]
 refine ifI (fun hlt => ?_) fun hlt => ?_
 · have hlt' : i + 1 < l.length := by omega
   have hne := cap_eqB (nth l (i + 1)) (nth l i)
   rw [decide_eq_false (h i hlt')] at hne
   have w1 : IntKind.wrap .i64 (((i + 1 : Nat) : Int) - 1) = (i : Int) := by rw [wrap_i64 (by omega) (by omega)]; omega
   have hi0 : i < l.length := by omega
   have hq1 : (List.map encCap l)[i + 1]? = some (encCap (nth l (i + 1))) := at_map hlt'
   have hq0 : (List.map encCap l)[i]? = some (encCap (nth l i)) := at_map hi0
   simp only [go_sem, seval, hlt, hlt', hi0, w1, hq1, hq0, Option.map_some, hne]
   refine ⟨by decide +kernel, ?_⟩
   refine ih (i + 1) _ (by omega) (by omega) ?_
   simp only [go_sem, seval, wrap_succ (show i + 1 < 9223372036854775807 by omega)]
 · subst hst
   simp only [go_sem, seval, hlt]
   simp
def zCap : List AV := [.int .i64 0, .int .i64 0, .int .i64 0, .int .i64 0]
structure CInv (l : List Cap) (b q k : Nat) (cur : List Cap) : Prop where
 hq : b + q + 1 ≤ l.length
 hk : k ≤ b + q
 len : cur.length = l.length
 rest : ∀ p, b + q ≤ p → p < l.length → nth cur p = nth l p
 done : cur.take k = compact (l.take (b + q + 1))
theorem CInv.same {l cur : List Cap} {b q k : Nat} (h : CInv l b q k cur) (hb : 1 ≤ b) (hlt : b + q + 1 < l.length) (he : nth l (b + q + 1) = nth l (b + q)) : CInv l b (q + 1) k cur :=
 ⟨by omega, by have := h.hk; omega, h.len, fun p h1 h2 => h.rest p (by omega) h2, by
   rw [show b + (q + 1) + 1 = (b + q + 1) + 1 by omega, compact_take (by omega) hlt, show b + q + 1 - 1 = b + q by omega, if_pos he, List.append_nil]; exact h.done⟩
theorem CInv.new {l cur : List Cap} {b q k : Nat} (h : CInv l b q k cur) (hb : 1 ≤ b) (hlt : b + q + 1 < l.length) (he : ¬ nth l (b + q + 1) = nth l (b + q)) : CInv l b (q + 1) (k + 1) (cur.set k (nth l (b + q + 1))) := by
 have hk := h.hk
 have hl := h.len
 refine ⟨by omega, by omega, by rw [List.length_set]; exact hl, fun p h1 h2 => ?_, ?_⟩
 · show (cur.set k (nth l (b + q + 1))).getD p default = l.getD p default
   rw [List.getD_eq_getElem?_getD, List.getElem?_set_ne (by omega), ← List.getD_eq_getElem?_getD]
   exact h.rest p (by omega) h2
 · rw [show b + (q + 1) + 1 = (b + q + 1) + 1 by omega, compact_take (by omega) hlt, show b + q + 1 - 1 = b + q by omega, if_neg he, ← h.done]
   rw [List.take_add_one, List.getElem?_set_self (by omega), List.take_set_of_le (Nat.le_refl _)]
   rfl
set_option maxHeartbeats 16000000 in
theorem CompactM_dup (l : List Cap) (hl : l.length ≤ 1000000) (k0 : Nat) (hk0 : k0 + 1 < l.length) (hd : nth l (k0 + 1) = nth l k0) (hno : ∀ j, j < k0 → nth l (j + 1) ≠ nth l j) : AnsM Tryz.prog 84 61 [.obj 1 53 4 false true (l.map encCap)] [.ref 61 1] (.win 61 1 0 (compact l).length)
 [(61, .obj 1 53 4 false true ((compact l).map encCap ++ List.replicate (l.length - (compact l).length) zCap))] := by
 have h2t : ((l.length : Int) < 2) = False := eq_false (by omega)
 have hpre : compact (l.take (k0 + 1)) = l.take (k0 + 1) := compact_noadj fun i hi => by
  rw [List.length_take] at hi
  rw [nth_take' (by omega), nth_take' (by omega)]
  exact hno i (by omega)
 have hfirst : compact (l.take (k0 + 2)) = l.take (k0 + 1) := by
  rw [compact_take (by omega) hk0, Nat.add_sub_cancel, if_pos hd, List.append_nil, hpre]
 refine goodM_run [(9, [29, 30, 31, 32, 33, 34, 35, 36, 37, 38, 39, 40, 41, 42, 43, 44, 45, 46, 47, 48, 49, 50, 51, 52, 53], []), (4, [2, 4, 5, 10, 11, 12, 13, 14, 15, 16, 17, 18, 19, 20, 21, 22, 23, 24, 25, 26, 27, 28, 29, 30, 31, 32, 33, 34, 35, 36, 37, 38, 39, 40, 41, 42, 43, 44, 45, 46, 47, 48, 49, 50, 51, 52, 53, 54, 55, 56, 57, 58, 59], [])] mixed Tryz.func84 rfl Tryz.ntmps84 (rs := [.tmp 2]) rfl (show wfCode 62 _ = true by decide +kernel) (by kernel_rfl) ?_
 rw [startM_eq 61 _ _ _ _ rfl rfl]
 simp only [go_sem, seval, h2t]
 refine loop_by ([2, 4, 5, 10, 11, 12, 13, 14, 15, 16, 17, 18, 19, 20, 21, 22, 23, 24, 25, 26, 27, 28, 29, 30, 31, 32, 33, 34, 35, 36, 37, 38, 39, 40, 41, 42, 43, 44, 45, 46, 47, 48, 49, 50, 51, 52, 53, 54, 55, 56, 57, 58, 59], []) (fun i : Nat => [(.s 3, .int .i64 ((i + 1 : Nat) : Int))]) (fun i => l.length - i) (fun i => i ≤ k0) 0 rfl (by omega) rfl ?_
 rintro c' st' hst i hi ih
 have hlt : ((i + 1 : Nat) : Int) < (l.length : Int) := by omega
 have hlt' : i + 1 < l.length := by omega
 have hne := cap_eqB (nth l (i + 1)) (nth l i)
 have w1 : IntKind.wrap .i64 (((i + 1 : Nat) : Int) - 1) = (i : Int) := by rw [wrap_i64 (by omega) (by omega)]; omega
 have hi0 : i < l.length := by omega
 have hq1 : (List.map encCap l)[i + 1]? = some (encCap (nth l (i + 1))) := at_map hlt'
 have hq0 : (List.map encCap l)[i]? = some (encCap (nth l i)) := at_map hi0
 refine Classical.byCases (fun hik : i < k0 => ?_) fun hik => ?_
 · rw [decide_eq_false (hno i hik)] at hne
   simp only [go_sem, seval, hlt, hlt', hi0, w1, hq1, hq0, Option.map_some, hne]
   refine ⟨by decide +kernel, ?_⟩
   refine ih (i + 1) _ (by omega) (by omega) ?_
   simp only [go_sem, seval, wrap_succ (show i + 1 < 9223372036854775807 by omega)]
 have hik0 : i = k0 := by omega
 subst hik0
 rw [decide_eq_true hd] at hne
 have c1 : ((i + 1 : Nat) : Int) ≤ (l.length : Int) := by omega
 simp only [go_sem, seval, hlt, hlt', hi0, w1, hq1, hq0, Option.map_some, hne, c1]
 refine ⟨by decide +kernel, ?_⟩
 simp only [go_sem, seval, Nat.zero_le, Nat.le_refl, Int.le_refl, Nat.sub_zero, Nat.zero_add, c1, Int.toNat_natCast]
 trace_state
 have hI0 : CInv l (i + 1) 0 (i + 1) l := ⟨by omega, by omega, rfl, fun p _ _ => rfl, hfirst.symm⟩
 clear ih
 refine loop_by ([29, 30, 31, 32, 33, 34, 35, 36, 37, 38, 39, 40, 41, 42, 43, 44, 45, 46, 47, 48, 49, 50, 51, 52, 53], []) (fun z : Nat × Nat × List Cap => [(.s 5, .int .i64 ((z.1 + 1 : Nat) : Int)), (.s 3, .int .i64 (z.2.1 : Int)), (.o 61, .obj 1 53 4 false true (z.2.2.map encCap))]) (fun z => l.length - z.1) (fun z => CInv l (i + 1) z.1 z.2.1 z.2.2) (0, i + 1, l) rfl hI0 ?_ ?_
 · simp only [go_sem, seval]
 rintro c2 st2 hst2 ⟨q, k, cur⟩ hI ih2
 simp only at hI ih2 ⊢
 have iq := hI.hq
 have ik := hI.hk
 have il := hI.len
 simp only [go_sem, seval]
 refine ifI (fun hlq => ?_) fun hlq => ?_
 · have hlt2 : i + 1 + q + 1 < l.length := by omega
   have d1 : i + 1 + (l.length - (i + 1)) ≤ cur.length := by omega
   have hqa : (List.map encCap cur)[i + 1 + (q + 1)]? = some (encCap (nth l (i + 1 + q + 1))) := by rw [at_map (by omega), hI.rest (i + 1 + (q + 1)) (by omega) (by omega)]; rfl
   have hqb : (List.map encCap cur)[i + 1 + q]? = some (encCap (nth l (i + 1 + q))) := by rw [at_map (by omega), hI.rest (i + 1 + q) (by omega) (by omega)]
   have w2 : IntKind.wrap .i64 (((q + 1 : Nat) : Int) - 1) = (q : Int) := by rw [wrap_i64 (by omega) (by omega)]; omega
   have hl2 : ((q + 1 : Nat) : Int) < ((l.length - (i + 1) : Nat) : Int) := by omega
   have hl3 : (q : Int) < ((l.length - (i + 1) : Nat) : Int) := by omega
   have hl4 : q < l.length - (i + 1) := by omega
   have hn2 := cap_eqB (nth l (i + 1 + q + 1)) (nth l (i + 1 + q))
   have hk1 : (k : Int) < (cur.length : Int) := by omega
   have hk2 : k < cur.length := by omega
   refine Classical.byCases (fun he : nth l (i + 1 + q + 1) = nth l (i + 1 + q) => ?_) fun he => ?_
   · rw [decide_eq_true he] at hn2
     have hI2 := hI.same (by omega) hlt2 he
     simp only [go_sem, seval, hlq, d1, hqa, hqb, w2, hl2, hl3, hl4, Option.map_some, hn2, Bool.not_true]
     refine ⟨by decide +kernel, ?_⟩
     refine ih2 (q + 1, k, cur) _ hI2 (by simp only; omega) ?_
     simp only [go_sem, seval, wrap_succ (show q + 1 < 9223372036854775807 by omega)]
   · rw [decide_eq_false he] at hn2
     have hI2 := hI.new (by omega) hlt2 he
     simp only [go_sem, seval, hlq, d1, hqa, hqb, w2, hl2, hl3, hl4, Option.map_some, hn2, Bool.not_false]
     refine ⟨by decide +kernel, ?_⟩
     have hqk : (List.map encCap cur)[k]? = some (encCap (nth cur k)) := at_map hk2
     simp only [go_sem, seval, hlq, d1, hqa, hl2, hk1, hk2, hqk, Option.map_some]
     refine ih2 (q + 1, k + 1, cur.set k (nth l (i + 1 + q + 1))) _ hI2 (by simp only; omega) ?_
     simp only [go_sem, seval, wrap_succ (show q + 1 < 9223372036854775807 by omega), wrap_succ (show k < 9223372036854775807 by omega), List.map_set]
 · subst hst2
   have hkn : (k : Int) ≤ (cur.length : Int) := by omega
   have hfin : cur.take k = compact l := by
    have := hI.done
    rwa [List.take_of_length_le (show l.length ≤ i + 1 + q + 1 by omega)] at this
   have hkl : (compact l).length = k := by rw [← hfin, List.length_take]; omega
   have hke : k + (cur.length - k) = cur.length := by omega
   have hdr : List.drop cur.length cur = [] := List.drop_length
   simp only [go_sem, seval, hlq, hkn, Nat.zero_le, Nat.le_refl, Int.le_refl, Nat.sub_zero, Nat.zero_add, Int.toNat_natCast, hke, hdr, hfin, hkl, List.map_nil, List.append_nil, List.length_append, List.length_map, List.length_replicate]
   simp [zCap, il]
theorem ordered_held (l : List Cap) (h : ∀ x ∈ l, CapSm x) (hl : l.length ≤ 1000000) : ∃ m, Ans Tryz.prog 44 [.sl (l.map encCap)] (.sl ((compact m).map encCap)) ∧ (∀ x, x ∈ m ↔ x ∈ l) ∧ m.Pairwise (fun a b => b.lt a = false) := by
 have hv := toS_val l h
 have hlen : (toS l h).length = l.length := by rw [← List.length_map (f := Subtype.val), hv]
 rcases Nat.eq_zero_or_pos l.length with h0 | h0
 · have : l = [] := List.eq_nil_of_length_eq_zero h0
   subst this
   exact ⟨[], Ans.le ordered_nil .nils rfl, fun x => Iff.rfl, .nil⟩
 have hS := SortedM (toS l h) (by omega) (by omega)
 have hV := Values_good l
 rw [hv] at hS
 have hml : (sortC (toS l h)).length ≤ 1000000 := by rw [sortC_len, hlen]; exact hl
 refine ⟨sortC (toS l h), ?_, fun x => by rw [sortC_mem, hv], sortC_sorted _⟩
 generalize sortC (toS l h) = m at hS hml
 generalize l.map encCap = rows at hS hV
 refine Classical.byCases (fun hna : NoAdj m => ?_) fun hna => ?_
 · have hC := CompactM_no m hml hna
   rw [compact_noadj hna]
   refine good_run [] mixed Tryz.func44 rfl Tryz.ntmps44 (rs := [.tmp 2]) rfl (by decide +kernel) (by kernel_rfl) rfl ?_
   rw [startE_eq 7 _ _ _ rfl rfl]
   simp only [go_sem, seval]
   refine call_of (hV) ?_
   simp only [go_sem, seval]
   refine callM_of [] [5] (hS) ⟨rfl, rfl, rfl, by simp, by simp, by simp, by simp, rfl, rfl, rfl, onodup_of (l := [7]) rfl (by decide)⟩ ?_
   simp only [go_sem, seval]
   refine callM_of [5] [5] (hC) ⟨by simp [renA, ren1, invM, posOf, verOf, AV.cellP, Env.go], rfl, rfl, by simp, by simp, by simp, by simp, rfl, rfl, rfl, onodup_of (l := [61]) rfl (by decide)⟩ ?_
   simp only [go_sem, seval]
 have hex : ∃ k, k < m.length ∧ (k + 1 < m.length ∧ nth m (k + 1) = nth m k) := by
  refine Classical.byContradiction fun q => hna fun i hi e => q ⟨i, by omega, hi, e⟩
 obtain ⟨k0, hk1, ⟨hk2, hd⟩, hno⟩ := first_of m.length hex
 have hC := CompactM_dup m hml k0 hk2 hd fun j hj e => hno j hj ⟨by omega, e⟩
 have hcl := compact_len m
 have htk : List.take (compact m).length (List.map encCap (compact m) ++ List.replicate (m.length - (compact m).length) zCap) = List.map encCap (compact m) := List.take_left' (List.length_map ..)
 have hle : (compact m).length ≤ (List.map encCap (compact m) ++ List.replicate (m.length - (compact m).length) zCap).length := by rw [List.length_append, List.length_map]; omega
 generalize List.map encCap (compact m) ++ List.replicate (m.length - (compact m).length) zCap = rr at hC htk hle
 generalize List.map encCap (compact m) = R at htk
 refine good_run [] mixed Tryz.func44 rfl Tryz.ntmps44 (rs := [.tmp 2]) rfl (by decide +kernel) (by kernel_rfl) rfl ?_
 rw [startE_eq 7 _ _ _ rfl rfl]
 simp only [go_sem, seval]
 refine call_of (hV) ?_
 simp only [go_sem, seval]
 refine callM_of [] [5] (hS) ⟨rfl, rfl, rfl, by simp, by simp, by simp, by simp, rfl, rfl, rfl, onodup_of (l := [7]) rfl (by decide)⟩ ?_
 simp only [go_sem, seval]
 refine callM_of [5] [5] (hC) ⟨by simp [renA, ren1, invM, posOf, verOf, AV.cellP, Env.go], rfl, rfl, by simp, by simp, by simp, by simp, rfl, rfl, rfl, onodup_of (l := [61]) rfl (by decide)⟩ ?_
 simp only [go_sem, seval]
 rw [Nat.zero_add, if_pos hle, htk]
 rfl
set_option maxRecDepth 100000
theorem scanG_ok {C : CC} {q : Nat → Nat} {l : List Stg} {base : Nat} {fin : Int × Int} : ∀ {n i : Nat}, (scanG C q l base fin n i).2 = 0 → ∀ k, i ≤ k → k < i + n → stoE C (nth l k) (q k) = 0
 | 0, i, h, k, h1, h2 => by omega
 | n + 1, i, h, k, h1, h2 => by
   unfold scanG at h
   split at h
   · rename_i e
     by_cases hk : k = i
     · subst hk; exact e
     · exact scanG_ok (n := n) (i := i + 1) h k (by omega) (by omega)
   · rename_i e
     exact absurd h e
structure StateOk (c : Case) (s : St) : Prop where
 right : Right c
 jobs : s.jobs.length = c.users.length
 sto : ∀ k, k < s.jobs.length → (stgE (nth s.jobs k)).2 = 0
theorem stateOk_of {c : Case} {s : St} (hs : Fit c.sec) (h : (stE c s).2 = 0) : StateOk c s := by
 unfold stE at h
 split at h
 · rename_i q; exact absurd h q
 rename_i q
 have he := Classical.not_not.1 q
 split at h
 · cases h
 rename_i q2
 have hq := Classical.not_not.1 q2
 refine ⟨right_of hs he, hq.1, fun k hk => ?_⟩
 unfold scanA at h
 have h2 := scanG_ok h k (Nat.zero_le _) (by omega)
 unfold stoE at h2
 split at h2
 · rename_i q3; exact absurd h2 q3
 · rename_i q3; exact Classical.not_not.1 q3
theorem StateOk.jobsOk {c : Case} {s : St} (h : StateOk c s) : JobsOk s := by
 have hJ := h.right.J
 have hj := h.jobs
 refine ⟨by omega, fun x hx => ?_⟩
 obtain ⟨k, hk, rfl⟩ := List.mem_iff_getElem.1 hx
 have := sok_of (h.sto k hk)
 rw [nth_eq hk] at this
 exact this
theorem held_small {s : St} (h : JobsOk s) : ∀ x ∈ heldL s, CapSm x := fun x hx => by
 obtain ⟨j, k, p, hj, hv, rfl⟩ := heldL_mem.1 hx
 have hJ := h.jobs
 have hok := h.job (nth s.jobs j) (nth_mem hj)
 have hv2 : (nth s.jobs j).view k = some p := hv
 have hl : k < (nth s.jobs j).tags.length := view_lt hv2
 rw [view_eq] at hv2
 split at hv2
 · rename_i ht
   have hp := ptrE_ok.1 (ptrIn_err (hok.ptr k hl ht))
   cases hv2
   unfold CapSm capOf
   simp only
   omega
 · cases hv2
theorem heldGo_len : ∀ (l : List Stg) (j : Nat), (∀ x ∈ l, SOk x) → (heldGo l j).length ≤ 64 * l.length
 | [], _, _ => by simp [heldGo]
 | x :: l, j, h => by
   have h0 := heldGo_len l (j + 1) fun y hy => h y (List.mem_cons_of_mem _ hy)
   have h1 := (h x List.mem_cons_self).small
   have h2 := tagK_len x x.tags.length
   have h3 : (ptrP x x.tags.length).length = (tagK x x.tags.length).length := List.length_map ..
   rw [heldGo, List.length_append, List.length_map, ← ptrP_all, List.length_cons]
   omega
theorem held_len {s : St} (h : JobsOk s) : (rHeld s).length ≤ 1000000 := by
 have h1 := putAll_len (heldL s) []
 have h2 := heldGo_len s.jobs 0 h.job
 have h3 := h.jobs
 have h4 : (heldL s).length = (heldGo s.jobs 0).length := rfl
 unfold rHeld
 simp only [List.length_nil] at h1
 omega
set_option maxHeartbeats 16000000 in
theorem HeldIn_good {c : Case} {s : St} (hs : Fit c.sec) (hu : c.users.length ≤ 1000) (hS : SmallSt s) (he : (stE c s).2 = 0) : Ans Tryz.prog 16 [.agg (encCase c), .agg (encSt s)] (.tup [.sl ((rHeld s).map encCap), .int .i64 0]) := by
 have h := stateErr_good c s hs hu hS
 rw [he] at h
 have hok := stateOk_of hs he
 have hJk := hok.jobsOk
 have hJ := hJk.jobs
 have hdef : heldL s = [] ++ heldGo (s.jobs.drop 0) 0 := rfl
 have hsm := held_small hJk
 have hrd : rHeld s = putAll [] (heldL s) := rfl
 rw [hrd]
 clear hrd
 generalize heldL s = H at hdef hsm
 refine good_run [(9, [11, 30, 31, 32, 33, 34, 35, 36, 37, 38, 39, 40, 41, 42, 43, 44, 45, 46], [11, 44]), (6, [8, 9, 11, 22, 23, 24, 25, 26, 27, 28, 29, 30, 31, 32, 33, 34, 35, 36, 37, 38, 39, 40, 41, 42, 43, 44, 45, 46, 47], [9, 11, 44, 1704053045])] mixed Tryz.func16 rfl Tryz.ntmps16 (rs := [.tmp 4, .tmp 5]) rfl (by decide +kernel) (by kernel_rfl) rfl ?_
 rw [startE_eq 50 _ _ _ rfl rfl]
 simp only [go_sem, seval]
 refine call_of (h) ?_
 simp only [go_sem, seval]
 refine loop_by ([8, 9, 11, 22, 23, 24, 25, 26, 27, 28, 29, 30, 31, 32, 33, 34, 35, 36, 37, 38, 39, 40, 41, 42, 43, 44, 45, 46, 47], [9, 11, 44, 1704053045]) (fun z : Nat × List Cap => [(.s 21, .int .i64 (z.1 : Int)), (.o 9, deadV z.1), (.o 11, deadV z.2.length), (.o 44, deadV z.2.length), (.o 45, .obj (z.2.length + 1) 53 4 false true (z.2.map encCap)), (.s 7, .ref 45 (z.2.length + 1))]) (fun z => s.jobs.length - z.1) (fun z => z.1 ≤ s.jobs.length ∧ z.2.length ≤ 64 * z.1 ∧ H = z.2 ++ heldGo (s.jobs.drop z.1) z.1) (0, []) rfl ⟨Nat.zero_le _, Nat.zero_le _, hdef⟩ ?_ ?_
 · simp only [go_sem, seval, List.length_nil, List.map_nil]
 rintro c' st' hst ⟨i, acc⟩ ⟨hi, hal, hf⟩ ih
 simp only at hi hal hf ih ⊢
 simp only [go_sem, seval]
 refine ifI (fun hlt => ?_) fun hlt => ?_
 case refine_2 =>
  have hH : H = acc := by rw [hf, List.drop_eq_nil_of_le (by omega)]; exact List.append_nil _
  obtain ⟨m, hm, hm2, hm3⟩ := ordered_held H hsm (by rw [hH]; omega)
  rw [held_same hm2 hm3, hH] at hm
  rw [hH]
  subst hst
  simp only [go_sem, seval, hlt]
  refine call_of (hm) ?_
  simp only [go_sem, seval]
 have hlt' : i < s.jobs.length := by omega
 have hxs := hok.sto i hlt'
 have hxo := hJk.job _ (nth_mem hlt')
 have hxm := hxo.small
 rw [heldGo_drop hlt', ← ptrP_all] at hf
 have hP := pointers_good (nth s.jobs i) hxo hxs
 have hPl : (ptrP (nth s.jobs i) (nth s.jobs i).tags.length).length ≤ 64 := by
  have := tagK_len (nth s.jobs i) (nth s.jobs i).tags.length
  unfold ptrP; rw [List.length_map]; omega
 have hPr := ptrP_rng hxo
 generalize ptrP (nth s.jobs i) (nth s.jobs i).tags.length = P at hP hPl hPr hf
 simp only [go_sem, seval, hlt, hlt']
 refine call_of (hP) ?_
 simp only [go_sem, seval]
 have ihh := show id _ from ih
 clear ih
 refine loop_by ([11, 30, 31, 32, 33, 34, 35, 36, 37, 38, 39, 40, 41, 42, 43, 44, 45, 46], [11, 44]) (fun z : Nat × List Cap => [(.s 29, .int .i64 (z.1 : Int)), (.o 11, deadV z.2.length), (.o 44, deadV z.2.length), (.o 45, .obj (z.2.length + 1) 53 4 false true (z.2.map encCap)), (.s 7, .ref 45 (z.2.length + 1))]) (fun z => P.length - z.1) (fun z => z.1 ≤ P.length ∧ z.2.length ≤ 64 * i + z.1 ∧ H = z.2 ++ ((P.drop z.1).map (capOf i) ++ heldGo (s.jobs.drop (i + 1)) (i + 1))) (0, acc) rfl ⟨Nat.zero_le _, by simp only; omega, hf⟩ ?_ ?_
 · simp only [go_sem, seval]
 rintro c2 st2 hst2 ⟨j, ac⟩ ⟨hj, hcl, hf2⟩ ih2
 simp only at hj hcl hf2 ih2 ⊢
 simp only [go_sem, seval]
 refine ifI (fun hlj => ?_) fun hlj => ?_
 case refine_2 =>
  subst hst2
  have hH : H = ac ++ heldGo (s.jobs.drop (i + 1)) (i + 1) := by rw [hf2, List.drop_eq_nil_of_le (by omega)]; rfl
  simp only [go_sem, seval, hlj]
  refine ihh (i + 1, ac) _ ⟨by simp only; omega, by simp only; omega, hH⟩ (by simp only; omega) ?_
  simp only [go_sem, seval, wrap_succ (show i < 9223372036854775807 by omega)]
 have hlj' : j < P.length := by omega
 have hpr := hPr _ (nth_mem hlj')
 rw [drop_nth hlj', List.map_cons, List.cons_append] at hf2
 generalize hp : nth P j = p at hpr hf2
 have hf3 : H = (ac ++ [capOf i p]) ++ ((P.drop (j + 1)).map (capOf i) ++ heldGo (s.jobs.drop (i + 1)) (i + 1)) := by rw [hf2, List.append_assoc]; rfl
 have w9 : IntKind.wrap .i64 (p.seg - 1) = p.seg - 1 := wrap_i64 (by omega) (by omega)
 have hr : List.map encCap (ac ++ [capOf i p]) = List.map encCap ac ++ [[.int .i64 (i : Int), .int .i64 (p.seg - 1), .int .i64 p.kind, .int .i64 p.auth]] := by rw [List.map_append]; rfl
 have hl3 : (ac ++ [capOf i p]).length = ac.length + 1 := by simp
 simp only [go_sem, seval, hlj, hlj', hp, w9, show (ac.length + 1) * 32 ≤ 140737488355328 by omega, show ac.length + 1 ≤ maxLen by unfold maxLen; omega]
 generalize ac ++ [capOf i p] = ac' at hf3 hr hl3
 refine ih2 (j + 1, ac') _ ⟨by simp only; omega, by simp only; omega, hf3⟩ (by simp only; omega) ?_
 simp only [go_sem, seval, wrap_succ (show j < 9223372036854775807 by omega), hr, hl3]
end Go.Proofs.YtbhgehhmjpipiaaGreatDoor.C12
namespace Go.Proofs.YtbhgehhmjpipiaaGreatDoor.C12
open Go Go.Proofs Go.Proofs.YtbhgehhmjpipiaaGreatDoor.Ab Go.Proofs.YtbhgehhmjpipiaaGreatDoor.C10
theorem jobs_ok {c : Case} (h : Right c) {s : St} (hv : StV (cc c) s) : JobsOk s := by
 obtain ⟨a, b, d, e⟩ := stv_small h hv
 refine ⟨by omega, fun x hx => ?_⟩
 obtain ⟨j, hj, rfl⟩ := List.mem_iff_getElem.1 hx
 have q := (hv.job j (by have := hv.nj; omega)).ok
 have e : s.jobs.getD j default = s.jobs[j] := by simp [List.getD_eq_getElem?_getD, hj]
 rw [e] at q
 exact sok_v q (by decide)
end Go.Proofs.YtbhgehhmjpipiaaGreatDoor.C12
