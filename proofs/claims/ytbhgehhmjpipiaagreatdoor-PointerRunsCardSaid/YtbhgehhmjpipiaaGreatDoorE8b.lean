/- Chapter 12: lists of capabilities in order, by the reference. -/
import Derived.Test.YtbhgehhmjpipiaaGreatDoorE7c
import Derived.Test.YtbhgehhmjpipiaaGreatDoorS7
set_option linter.unusedSimpArgs false
set_option linter.unusedVariables false
namespace Go.Proofs.YtbhgehhmjpipiaaGreatDoor.C12
open Go Go.Proofs Go.Proofs.YtbhgehhmjpipiaaGreatDoor.Ab Go.Proofs.YtbhgehhmjpipiaaGreatDoor.C10
set_option maxRecDepth 100000
attribute [local congr] ite_ctx
theorem Has_good (l : List Cap) (x : Cap) (hl : l.length ≤ 1000000) : Ans Tryz.prog 24 [.sl (l.map encCap), .agg (encCap x)] (.bool (decide (x ∈ l))) := by
 refine good_run [(2, [4, 6, 7, 8, 9, 10, 11, 12, 13, 14, 15, 16, 17], [])] mixed Tryz.func24 rfl Tryz.ntmps24 (rs := [.tmp 4]) rfl (by decide +kernel) (by kernel_rfl) rfl ?_
 rw [startE_eq 18 _ _ _ rfl rfl]
 simp only [go_sem, seval]
 refine loop_by ([4, 6, 7, 8, 9, 10, 11, 12, 13, 14, 15, 16, 17], []) (fun i : Nat => [(.s 5, .int .i64 (i : Int))]) (fun i => l.length - i) (fun i => i ≤ l.length ∧ decide (x ∈ l) = decide (x ∈ l.drop i)) 0 rfl ⟨Nat.zero_le _, rfl⟩ rfl ?_
 rintro c' st' hst i ⟨hi, hf⟩ ih
 simp only [go_sem, seval]
 refine ifI (fun hlt => ?_) fun hlt => ?_
 · have hlt' : i < l.length := by omega
   have he := cap_eqB (nth l i) x
   simp only [go_sem, seval, hlt, hlt', he]
   refine ⟨by decide +kernel, ?_⟩
   refine Classical.byCases (fun hn : nth l i = x => ?_) fun hn => ?_
   · have hnt : (nth l i = x) = True := eq_true hn
     simp only [go_sem, seval, hnt, decide_true]
     rw [hf, drop_nth hlt', hn]; simp
   · have hnt : (nth l i = x) = False := eq_false hn
     simp only [go_sem, seval, hnt, decide_false]
     refine ih (i + 1) _ ⟨by omega, ?_⟩ (by omega) ?_
     · rw [hf, drop_nth hlt']
       have : x ≠ nth l i := Ne.symm hn
       simp [this]
     simp only [go_sem, seval, wrap_succ (show i < 9223372036854775807 by omega)]
 · subst hst
   simp only [go_sem, seval, hlt]
   rw [hf, List.drop_eq_nil_of_le (by omega)]; simp
theorem Less12_good (a b : Cap) : Ans Tryz.prog 94 [.agg (encCap a), .agg (encCap b)] (.bool (a.lt b)) := by
 have hE : a.lt b = if a.job ≠ b.job then decide (a.job < b.job) else if a.object ≠ b.object then decide (a.object < b.object) else if a.kind ≠ b.kind then decide (a.kind < b.kind) else decide (a.auth < b.auth) := rfl
 generalize a.lt b = r at hE
 refine Classical.byCases (fun h1 : a.job = b.job => ?_) fun h1 => ?_
 case refine_2 =>
  rw [if_pos h1] at hE
  have ht : (a.job = b.job) = False := eq_false h1
  rw [hE]
  refine good_run [] mixed Tryz.func94 rfl Tryz.ntmps94 (rs := [.tmp 4]) rfl (by decide +kernel) (by kernel_rfl) rfl ?_
  rw [startE_eq 40 _ _ _ rfl rfl]
  simp only [go_sem, seval, ht, not_false_eq_true, decide_true]
 rw [if_neg (fun q => q h1)] at hE
 have h1t : (a.job = b.job) = True := eq_true h1
 refine Classical.byCases (fun h2 : a.object = b.object => ?_) fun h2 => ?_
 case refine_2 =>
  rw [if_pos h2] at hE
  have ht : (a.object = b.object) = False := eq_false h2
  rw [hE]
  refine good_run [] mixed Tryz.func94 rfl Tryz.ntmps94 (rs := [.tmp 4]) rfl (by decide +kernel) (by kernel_rfl) rfl ?_
  rw [startE_eq 40 _ _ _ rfl rfl]
  simp only [go_sem, seval, h1t, ht, not_false_eq_true, not_true_eq_false, decide_true, decide_false]
 rw [if_neg (fun q => q h2)] at hE
 have h2t : (a.object = b.object) = True := eq_true h2
 refine Classical.byCases (fun h3 : a.kind = b.kind => ?_) fun h3 => ?_
 case refine_2 =>
  rw [if_pos h3] at hE
  have ht : (a.kind = b.kind) = False := eq_false h3
  rw [hE]
  refine good_run [] mixed Tryz.func94 rfl Tryz.ntmps94 (rs := [.tmp 4]) rfl (by decide +kernel) (by kernel_rfl) rfl ?_
  rw [startE_eq 40 _ _ _ rfl rfl]
  simp only [go_sem, seval, h1t, h2t, ht, not_false_eq_true, not_true_eq_false, decide_true, decide_false]
 rw [if_neg (fun q => q h3)] at hE
 have h3t : (a.kind = b.kind) = True := eq_true h3
 rw [hE]
 refine good_run [] mixed Tryz.func94 rfl Tryz.ntmps94 (rs := [.tmp 4]) rfl (by decide +kernel) (by kernel_rfl) rfl ?_
 rw [startE_eq 40 _ _ _ rfl rfl]
 simp only [go_sem, seval, h1t, h2t, h3t, not_true_eq_false, decide_false]
set_option maxRecDepth 100000
structure PInv (x : Cap) (l : List Cap) (R out : List Cap) (done : Bool) (i : Nat) : Prop where
 no : done = false → R = out ++ putGo x (l.drop i)
 yes : done = true → R = out ++ l.drop i
 len : out.length = i + (if done = true then 1 else 0)
theorem putGo_cons (x a : Cap) (l : List Cap) : putGo x (a :: l) = if x.lt a = true then x :: a :: l else a :: putGo x l := rfl
theorem put_bounds {n i k : Nat} {d : Bool} (h : n = i + if d = true then 1 else 0) (hi : i ≤ k) (hk : k ≤ 100000) : (n + 1) * 32 ≤ 140737488355328 ∧ n + 1 ≤ maxLen ∧ (n + 1 + 1) * 32 ≤ 140737488355328 ∧ n + 1 + 1 ≤ maxLen := by
 unfold maxLen
 cases d <;> simp at h <;> omega
set_option maxHeartbeats 8000000 in
theorem put_good (l : List Cap) (x : Cap) (hl : l.length ≤ 100000) : Ans Tryz.prog 49 [.sl (l.map encCap), .agg (encCap x)] (.sl ((put l x).map encCap)) := by
 have hH := Has_good l x (by omega)
 refine Classical.byCases (fun hin : x ∈ l => ?_) fun hin => ?_
 · rw [decide_eq_true hin] at hH
   rw [put, if_pos hin]
   refine good_run [(6, [12, 13, 14, 15, 16, 17, 18, 19, 20, 21, 22, 23, 24, 25, 26, 27, 28, 29, 30, 31, 32, 33, 34, 35, 36, 37, 38], [37, 30, 31, 1504053038])] mixed Tryz.func49 rfl Tryz.ntmps49 (rs := [.tmp 4]) rfl (by decide +kernel) (by kernel_rfl) rfl ?_
   rw [startE_eq 46 _ _ _ rfl rfl]
   simp only [go_sem, seval]
   refine call_of (hH) ?_
   simp only [go_sem, seval]
 rw [decide_eq_false hin] at hH
 rw [put, if_neg hin]
 generalize hR : putGo x l = R
 refine good_run [(6, [12, 13, 14, 15, 16, 17, 18, 19, 20, 21, 22, 23, 24, 25, 26, 27, 28, 29, 30, 31, 32, 33, 34, 35, 36, 37, 38], [37, 30, 31, 1504053038])] mixed Tryz.func49 rfl Tryz.ntmps49 (rs := [.tmp 4]) rfl (by decide +kernel) (by kernel_rfl) rfl ?_
 rw [startE_eq 46 _ _ _ rfl rfl]
 simp only [go_sem, seval]
 refine call_of (hH) ?_
 simp only [go_sem, seval]
 refine loop_by ([12, 13, 14, 15, 16, 17, 18, 19, 20, 21, 22, 23, 24, 25, 26, 27, 28, 29, 30, 31, 32, 33, 34, 35, 36, 37, 38], [37, 30, 31, 1504053038]) (fun z : Nat × Bool × List Cap => [(.s 7, .int .i64 (z.1 : Int)), (.s 6, .bool z.2.1), (.s 5, .ref 38 (z.1 + 1)), (.o 38, .obj (z.1 + 1) 53 4 false true (z.2.2.map encCap)), (.o 37, deadV z.1), (.o 30, deadV (if z.2.1 = true then 1 else 0)), (.o 31, deadV (if z.2.1 = true then 1 else 0))]) (fun z => l.length - z.1)
  (fun z => z.1 ≤ l.length ∧ PInv x l R z.2.2 z.2.1 z.1) (0, false, []) rfl ⟨Nat.zero_le _, ⟨fun _ => by rw [← hR]; rfl, fun q => (by cases q), rfl⟩⟩ ?_ ?_
 · simp only [go_sem, seval]
   done
 rintro c' st' hst ⟨i, done, out⟩ ⟨hi, hI⟩ ih
 simp only at hi hI ih ⊢
 have hol := hI.len
 have bb := put_bounds hol hi hl
 obtain ⟨b1, b2, b3, b4⟩ := bb
 simp only [go_sem, seval]
 refine ifI (fun hlt => ?_) fun hlt => ?_
 case refine_2 =>
  subst hst
  have hd : l.drop i = [] := List.drop_eq_nil_of_le (by omega)
  cases done with
  | true =>
    have hRo : R = out := by rw [hI.yes rfl, hd, List.append_nil]
    simp only [go_sem, seval, hlt, Bool.not_true]
    rw [hRo]
  | false =>
    have hRo : R = out ++ [x] := by rw [hI.no rfl, hd]; rfl
    simp only [go_sem, seval, hlt, Bool.not_false, b1, b2]
    rw [hRo]; simp [encCap]
 have hlt' : i < l.length := by omega
 have hdr := drop_nth hlt'
 cases done with
 | true =>
   have hI' : PInv x l R (out ++ [nth l i]) true (i + 1) := ⟨fun q => (by cases q), fun _ => by rw [hI.yes rfl, hdr]; simp, by simp [hol]⟩
   simp only [go_sem, seval, hlt, hlt', Bool.not_true]
   refine ⟨by decide +kernel, ?_⟩
   simp only [go_sem, seval, hlt', b1, b2]
   obtain ⟨out', ho', hJ⟩ : ∃ out' : List Cap, out'.map encCap = out.map encCap ++ [[.int .i64 (nth l i).job, .int .i64 (nth l i).object, .int .i64 (nth l i).kind, .int .i64 (nth l i).auth]] ∧ PInv x l R out' true (i + 1) := ⟨_, by simp [encCap], hI'⟩
   refine ih (i + 1, true, out') _ ⟨by simp only; omega, hJ⟩ (by simp only; omega) ?_
   simp only [go_sem, seval, wrap_succ (show i < 9223372036854775807 by omega), ho', List.append_assoc]
 | false =>
   have hL := Less12_good x (nth l i)
   cases hx : x.lt (nth l i) with
   | true =>
     rw [hx] at hL
     have hI' : PInv x l R (out ++ [x] ++ [nth l i]) true (i + 1) := ⟨fun q => (by cases q), fun _ => by rw [hI.no rfl, hdr, putGo_cons, if_pos hx]; simp, by simp [hol]⟩
     simp only [go_sem, seval, hlt, hlt', Bool.not_false]
     refine callD_of (hL) ?_
     simp only [go_sem, seval]
     refine ⟨by decide +kernel, ?_⟩
     simp only [go_sem, seval, hlt', b1, b2, b3, b4, List.length_append, List.length_cons, List.length_nil]
     obtain ⟨out', ho', hJ⟩ : ∃ out' : List Cap, out'.map encCap = out.map encCap ++ [[.int .i64 x.job, .int .i64 x.object, .int .i64 x.kind, .int .i64 x.auth], [.int .i64 (nth l i).job, .int .i64 (nth l i).object, .int .i64 (nth l i).kind, .int .i64 (nth l i).auth]] ∧ PInv x l R out' true (i + 1) := ⟨_, by simp [encCap], hI'⟩
     refine ih (i + 1, true, out') _ ⟨by simp only; omega, hJ⟩ (by simp only; omega) ?_
     simp only [go_sem, seval, wrap_succ (show i < 9223372036854775807 by omega), ho', List.append_assoc]
   | false =>
     rw [hx] at hL
     have hI' : PInv x l R (out ++ [nth l i]) false (i + 1) := ⟨fun _ => by rw [hI.no rfl, hdr, putGo_cons, if_neg (by rw [hx]; decide)]; simp, fun q => (by cases q), by simp [hol]⟩
     simp only [go_sem, seval, hlt, hlt', Bool.not_false]
     refine callD_of (hL) ?_
     simp only [go_sem, seval]
     refine ⟨by decide +kernel, ?_⟩
     simp only [go_sem, seval, hlt', b1, b2]
     obtain ⟨out', ho', hJ⟩ : ∃ out' : List Cap, out'.map encCap = out.map encCap ++ [[.int .i64 (nth l i).job, .int .i64 (nth l i).object, .int .i64 (nth l i).kind, .int .i64 (nth l i).auth]] ∧ PInv x l R out' false (i + 1) := ⟨_, by simp [encCap], hI'⟩
     refine ih (i + 1, false, out') _ ⟨by simp only; omega, hJ⟩ (by simp only; omega) ?_
     simp only [go_sem, seval, wrap_succ (show i < 9223372036854775807 by omega), ho', List.append_assoc]
end Go.Proofs.YtbhgehhmjpipiaaGreatDoor.C12
