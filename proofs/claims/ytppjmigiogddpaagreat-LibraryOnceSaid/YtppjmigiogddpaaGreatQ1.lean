/- Chapter 9: moving, copies, renaming, and their plain laws (several texts in one). -/
import Derived.Test.YtppjmigiogddpaaGreatC14
import Derived.Test.YtppjmigiogddpaaGreatC6
import Derived.Test.YtppjmigiogddpaaGreatC18
import Derived.Test.YtppjmigiogddpaaGreatE12
namespace Go.Proofs.YtppjmigiogddpaaGreat.C08
open Go Go.Proofs Go.Proofs.YtppjmigiogddpaaGreat.Ab
set_option linter.unusedSimpArgs false
set_option linter.unusedVariables false

theorem findIx_true {α : Type} [Inhabited α] {p : α → Bool} : ∀ {l : List α} {b : Nat} {i : Nat}, findIx p l b = (i : Int) → b ≤ i ∧ p (nth l (i - b)) = true := by
  intro l
  induction l with
  | nil => intro b i h; rw [findIx] at h; omega
  | cons a l ih =>
    intro b i h
    rw [findIx] at h
    split at h
    · rename_i hp
      have : i = b := by omega
      subst this
      exact ⟨Nat.le_refl _, by rw [Nat.sub_self]; exact hp⟩
    · have := ih h
      refine ⟨by omega, ?_⟩
      have e : i - b = (i - (b + 1)) + 1 := by omega
      rw [e]; exact this.2
theorem place_name {l : List Obj} {n : OName} {i : Nat} (h : placeIx l n = (i : Int)) : (nth l i).name = n := by
  have := (findIx_true h).2
  rw [Nat.sub_zero] at this
  exact of_decide_eq_true this
theorem split_at {l : List Obj} {i : Nat} (h : i < l.length) : l = l.take i ++ nth l i :: l.drop (i + 1) := by
  rw [nth_eq h, ← List.drop_eq_getElem_cons h, List.take_append_drop]
theorem without_sub (l : List Obj) {i : Nat} (h : i < l.length) : (withoutL l i).Sublist l := by
  conv => rhs; rw [split_at h]
  exact (List.Sublist.refl _).append (List.sublist_cons_self _ _)

/-- Objects of a right type. -/
abbrev OT := { o : Obj // 0 ≤ o.name.type ∧ o.name.type ≤ 29 }
instance : Inhabited OT := ⟨⟨⟨⟨⟨#[]⟩, ⟨#[]⟩, 0⟩, ⟨#[]⟩, 0, ⟨#[]⟩, ⟨#[]⟩⟩, by decide, by decide⟩⟩
def cmpM (a b : OName) : Int :=
  if ¬ a.lib = b.lib then Lib.compareBytes a.lib.data.toList b.lib.data.toList
  else if ¬ a.name = b.name then Lib.compareBytes a.name.data.toList b.name.data.toList else a.type - b.type
def cfM (a b : OT) : Int := cmpM a.1.name b.1.name
theorem cmpM_lt (a b : OName) : decide (cmpM a b < 0) = nLt a b := by
  unfold cmpM nLt sLt
  rw [← ByteArray.toList_eq, ← ByteArray.toList_eq, ← ByteArray.toList_eq, ← ByteArray.toList_eq]
  by_cases h1 : a.lib = b.lib
  · rw [if_neg (not_not_intro h1), if_neg (not_not_intro h1)]
    by_cases h2 : a.name = b.name
    · rw [if_neg (not_not_intro h2), if_neg (not_not_intro h2), decide_eq_decide]; omega
    · rw [if_pos h2, if_pos h2, Bool.eq_iff_iff, decide_eq_true_eq, cmpB_lt]
  · rw [if_pos h1, if_pos h1, Bool.eq_iff_iff, decide_eq_true_eq, cmpB_lt]
theorem ltM (x y : OT) : ltOf cfM x y = nLt x.1.name y.1.name := cmpM_lt x.1.name y.1.name
theorem swoM : Sort.SWO (ltOf cfM) where
  irrefl x := by rw [ltM]; exact nLt_irrefl _
  trans x y z h1 h2 := by rw [ltM] at *; exact nLt_trans h1 h2
  ntrans x y z h1 h2 := by
    rw [ltM] at *
    rw [Bool.eq_false_iff]; intro h3
    by_cases h4 : nLt y.1.name x.1.name = true
    · rw [nLt_trans h4 h3] at h2; cases h2
    · have := nLt_total h1 (Bool.eq_false_iff.2 h4)
      rw [this, h2] at h3; cases h3

theorem mv_sort {l : List Obj} {i : Nat} {o : Obj} (hi : i < l.length) (hs : Sorted l) (hn : ∀ a ∈ l, ¬ a.name = o.name) (L : List OT) (hL : L.map (·.1) = l.set i o) :
    (sortG cfM L).map (·.1) = insO o (withoutL l i) := by
  have hsub := without_sub l hi
  refine sorted_unique ?_ ?_ (insO_sorted (hs.sublist hsub) fun a ha => hn a (hsub.subset ha))
  · refine ((sortG_perm swoM L).map _).trans ?_
    rw [hL, List.set_eq_take_append_cons_drop, if_pos hi]
    exact List.perm_middle.trans (insO_perm o _).symm
  · rw [List.pairwise_map, List.pairwise_iff_getElem]
    intro a b ha hb hab
    have hl := sortG_len swoM L
    have := sortG_sorted swoM L hab (by omega)
    rw [ltM, nth_eq hb, nth_eq ha] at this
    exact this
theorem errObj_name {o : Obj} (h : errObj o = 0) : errName o.name = 0 := by
  unfold errObj at h
  by_cases q : errName o.name = 0
  · exact q
  · first
    | rw [if_pos q] at h; exact absurd h q
    | (split at h <;> first | exact absurd h q | omega)
theorem obj_type {d : Dir} (h : (dirE d).2 = 0) {o : Obj} (ho : o ∈ d.objects) : 0 ≤ o.name.type ∧ o.name.type ≤ 29 := by
  obtain ⟨i, hi, rfl⟩ := List.getElem_of_mem ho
  have h1 := ((objE_ok hi).1 (dirE_objs h hi)).err
  rw [nth_eq hi] at h1
  have h2 := errObj_name h1
  rw [errName] at h2
  split at h2
  · cases h2
  · rename_i q
    have : inB (d.objects[i]).name.type 0 29 = true := by simpa using q
    rw [inB, decide_eq_true_eq] at this
    omega
end Go.Proofs.YtppjmigiogddpaaGreat.C08
namespace Go.Proofs.YtppjmigiogddpaaGreat.C08
open Go Go.Proofs Go.Proofs.YtppjmigiogddpaaGreat.Ab
set_option linter.unusedSimpArgs false
set_option linter.unusedVariables false
attribute [local congr] ite_ctx

def opsN (t n : Nat) : List Int := ((List.range n).filter (permR t)).map fun k : Nat => (k : Int)
theorem opsN_succ (t n : Nat) : opsN t (n + 1) = if permR t n = true then opsN t n ++ [(n : Int)] else opsN t n := by
  rw [opsN, List.range_succ, List.filter_append, List.map_append, opsN]
  simp only [List.filter_cons, List.filter_nil]
  split <;> simp
theorem opsN_len (t n : Nat) : (opsN t n).length ≤ n := by
  rw [opsN, List.length_map]
  exact Nat.le_trans (List.length_filter_le _ _) (by rw [List.length_range]; exact Nat.le_refl _)
def opsL (t : Int) : List Int := if inB t 0 29 = true then opsN t.toNat 9 else []
theorem encI_snoc (l : List Int) (n : Int) : List.map encInt l ++ [[.int .i64 n]] = List.map encInt (l ++ [n]) := by rw [List.map_append]; rfl
theorem opsN_any : ∀ t : Nat, t < 30 → ∀ k : Nat, k < 9 → ((opsN t 9).any fun p => decide (p = (k : Int))) = permR t k := by decide +kernel

set_option maxHeartbeats 4000000 in
theorem OperationsOf_good (t : Int) : Ans Tryz.prog 75 [.int .i64 t] (.tup [.sl ((opsL t).map encInt), .int .i64 (tyE t)]) := by
  have it := isType_good t
  cases h : inB t 0 29 with
  | false =>
    rw [h] at it
    rw [opsL, tyE, if_neg (by rw [h]; decide), if_neg (by rw [h]; decide)]
    refine Ans.le (r := .tup [.nils, .int .i64 4]) ?_ (.tup' (.cons .nils (.cons (.refl _) .nil))) rfl
    refine good_run [(5, [5, 10, 11, 12, 13, 14, 15, 16, 17, 18, 19], [1401003019, 18])] mixed Tryz.func75 rfl Tryz.ntmps75 (rs := [.tmp 2, .tmp 3]) rfl (by decide +kernel) (by kernel_rfl) rfl ?_
    rw [startE_eq 21 _ _ _ rfl rfl]
    set_option maxRecDepth 100000 in simp (maxSteps := 10000000) only [go_sem, Nat.reduceAdd, Nat.reduceSub, Nat.reduceMul, Nat.reduceLT, Nat.reduceLeDiff, Nat.reduceEqDiff, Nat.reduceMod, Nat.reduceDiv, Int.reduceNeg, Int.reduceLE, Int.reduceLT, Int.reduceToNat, Int.reduceEq, Int.reduceNe, ↓reduceIte]
    refine call_of (it) ?_
    set_option maxRecDepth 100000 in simp (maxSteps := 10000000) only [go_sem, Nat.reduceAdd, Nat.reduceSub, Nat.reduceMul, Nat.reduceLT, Nat.reduceLeDiff, Nat.reduceEqDiff, Nat.reduceMod, Nat.reduceDiv, Int.reduceNeg, Int.reduceLE, Int.reduceLT, Int.reduceToNat, Int.reduceEq, Int.reduceNe, ↓reduceIte,  Bool.not_false]
  | true =>
  rw [h] at it
  rw [opsL, tyE, if_pos h, if_pos h]
  obtain ⟨h1, h2⟩ := (inB_iff t).1 h
  obtain ⟨k, rfl⟩ : ∃ k : Nat, t = (k : Int) := ⟨t.toNat, by omega⟩
  have hk : k < 30 := by omega
  rw [Int.toNat_natCast]
  have hsz : (⟨#[114, 109, 121, 100, 101, 99, 97, 108, 115]⟩ : ByteArray).size = 9 := rfl
  have hby : ∀ i, i < 9 → byteAt ⟨#[114, 109, 121, 100, 101, 99, 97, 108, 115]⟩ i < 128 := by decide +kernel
  refine good_run [(5, [5, 10, 11, 12, 13, 14, 15, 16, 17, 18, 19], [1401003019, 18])] mixed Tryz.func75 rfl Tryz.ntmps75 (rs := [.tmp 2, .tmp 3]) rfl (by decide +kernel) (by kernel_rfl) rfl ?_
  rw [startE_eq 21 _ _ _ rfl rfl]
  set_option maxRecDepth 100000 in simp (maxSteps := 10000000) only [go_sem, Nat.reduceAdd, Nat.reduceSub, Nat.reduceMul, Nat.reduceLT, Nat.reduceLeDiff, Nat.reduceEqDiff, Nat.reduceMod, Nat.reduceDiv, Int.reduceNeg, Int.reduceLE, Int.reduceLT, Int.reduceToNat, Int.reduceEq, Int.reduceNe, ↓reduceIte]
  refine call_of (it) ?_
  set_option maxRecDepth 100000 in simp (maxSteps := 10000000) only [go_sem, Nat.reduceAdd, Nat.reduceSub, Nat.reduceMul, Nat.reduceLT, Nat.reduceLeDiff, Nat.reduceEqDiff, Nat.reduceMod, Nat.reduceDiv, Int.reduceNeg, Int.reduceLE, Int.reduceLT, Int.reduceToNat, Int.reduceEq, Int.reduceNe, ↓reduceIte,  Bool.not_true]
  refine loop_by ([5, 10, 11, 12, 13, 14, 15, 16, 17, 18, 19], [1401003019, 18]) (fun i : Nat => [(.s 4, .ref 19 ((opsN k i).length + 1)), (.o 9, .iter 1 ⟨#[114, 109, 121, 100, 101, 99, 97, 108, 115]⟩ i), (.o 18, deadV (opsN k i).length), (.o 19, .obj ((opsN k i).length + 1) 3 1 false true ((opsN k i).map encInt))]) (fun i => 9 - i) (fun i => i ≤ 9) 0 rfl (Nat.zero_le _) ?_ ?_
  · set_option maxRecDepth 100000 in simp (maxSteps := 10000000) only [go_sem, Nat.reduceAdd, Nat.reduceSub, Nat.reduceMul, Nat.reduceLT, Nat.reduceLeDiff, Nat.reduceEqDiff, Nat.reduceMod, Nat.reduceDiv, Int.reduceNeg, Int.reduceLE, Int.reduceLT, Int.reduceToNat, Int.reduceEq, Int.reduceNe, ↓reduceIte,  show opsN k 0 = [] from rfl, List.map_nil, List.length_nil]
  rintro c' st' hst i hi ih
  refine Classical.byCases (fun hlt : i < 9 => ?_) fun hlt => ?_
  case refine_2 =>
    have hi9 : i = 9 := by omega
    subst hi9 hst
    set_option maxRecDepth 100000 in simp (maxSteps := 10000000) only [go_sem, Nat.reduceAdd, Nat.reduceSub, Nat.reduceMul, Nat.reduceLT, Nat.reduceLeDiff, Nat.reduceEqDiff, Nat.reduceMod, Nat.reduceDiv, Int.reduceNeg, Int.reduceLE, Int.reduceLT, Int.reduceToNat, Int.reduceEq, Int.reduceNe, ↓reduceIte,  hsz, Nat.lt_irrefl, List.length_nil]
  have pm := permits_good k i hk hlt
  have hs := opsN_succ k i
  have hl := opsN_len k i
  have es := encI_snoc (opsN k i) (i : Int)
  have hb := hby i hlt
  set_option maxRecDepth 100000 in simp (maxSteps := 10000000) only [go_sem, Nat.reduceAdd, Nat.reduceSub, Nat.reduceMul, Nat.reduceLT, Nat.reduceLeDiff, Nat.reduceEqDiff, Nat.reduceMod, Nat.reduceDiv, Int.reduceNeg, Int.reduceLE, Int.reduceLT, Int.reduceToNat, Int.reduceEq, Int.reduceNe, ↓reduceIte,  hsz, hlt, hb]
  cases hp : permR k i with
  | false =>
    rw [hp] at pm hs
    rw [if_neg (by decide)] at hs
    refine call_of (pm) ?_
    set_option maxRecDepth 100000 in simp (maxSteps := 10000000) only [go_sem, Nat.reduceAdd, Nat.reduceSub, Nat.reduceMul, Nat.reduceLT, Nat.reduceLeDiff, Nat.reduceEqDiff, Nat.reduceMod, Nat.reduceDiv, Int.reduceNeg, Int.reduceLE, Int.reduceLT, Int.reduceToNat, Int.reduceEq, Int.reduceNe, ↓reduceIte]
    refine ih (i + 1) _ (by omega) (by omega) ?_
    set_option maxRecDepth 100000 in simp (maxSteps := 10000000) only [go_sem, Nat.reduceAdd, Nat.reduceSub, Nat.reduceMul, Nat.reduceLT, Nat.reduceLeDiff, Nat.reduceEqDiff, Nat.reduceMod, Nat.reduceDiv, Int.reduceNeg, Int.reduceLE, Int.reduceLT, Int.reduceToNat, Int.reduceEq, Int.reduceNe, ↓reduceIte,  hs]
  | true =>
    rw [hp] at pm hs
    rw [if_pos rfl] at hs
    have hl2 : (opsN k i ++ [(i : Int)]).length = (opsN k i).length + 1 := by rw [List.length_append]; rfl
    refine call_of (pm) ?_
    set_option maxRecDepth 100000 in simp (maxSteps := 10000000) only [go_sem, Nat.reduceAdd, Nat.reduceSub, Nat.reduceMul, Nat.reduceLT, Nat.reduceLeDiff, Nat.reduceEqDiff, Nat.reduceMod, Nat.reduceDiv, Int.reduceNeg, Int.reduceLE, Int.reduceLT, Int.reduceToNat, Int.reduceEq, Int.reduceNe, ↓reduceIte,  es, show ((opsN k i).length + 1) * 8 ≤ 140737488355328 by omega, show (opsN k i).length + 1 ≤ maxLen by unfold maxLen; omega]
    refine ih (i + 1) _ (by omega) (by omega) ?_
    set_option maxRecDepth 100000 in simp (maxSteps := 10000000) only [go_sem, Nat.reduceAdd, Nat.reduceSub, Nat.reduceMul, Nat.reduceLT, Nat.reduceLeDiff, Nat.reduceEqDiff, Nat.reduceMod, Nat.reduceDiv, Int.reduceNeg, Int.reduceLE, Int.reduceLT, Int.reduceToNat, Int.reduceEq, Int.reduceNe, ↓reduceIte,  hs, hl2]

theorem permitted_good (d : Dir) (n : OName) (k : Nat) (hk : k < 9) (h : d.objects.length ≤ 1000000) : Ans Tryz.prog 36 [.agg (encDir d), .agg (encOName n), .int .i64 (k : Int)] (.tup [.int .i64 (if foundE d n k = 0 then placeIx d.objects n else 0), .int .i64 (foundE d n k)]) := by
  have fd := Find_good d n h
  refine Classical.byCases (fun h1 : findE d n = 0 => ?_) fun h1 => ?_
  case refine_2 =>
    have he : foundE d n k = findE d n := by rw [foundE, if_pos h1]
    rw [he, if_neg h1]
    refine good_run [] mixed Tryz.func36 rfl Tryz.ntmps36 (rs := [.tmp 6, .tmp 7]) rfl (by decide +kernel) (by kernel_rfl) rfl ?_
    rw [startE_eq 32 _ _ _ rfl rfl]
    set_option maxRecDepth 100000 in simp (maxSteps := 10000000) only [go_sem, Nat.reduceAdd, Nat.reduceSub, Nat.reduceMul, Nat.reduceLT, Nat.reduceLeDiff, Nat.reduceEqDiff, Nat.reduceMod, Nat.reduceDiv, Int.reduceNeg, Int.reduceLE, Int.reduceLT, Int.reduceToNat, Int.reduceEq, Int.reduceNe, ↓reduceIte]
    refine call_of (fd) ?_
    set_option maxRecDepth 100000 in simp (maxSteps := 10000000) only [go_sem, Nat.reduceAdd, Nat.reduceSub, Nat.reduceMul, Nat.reduceLT, Nat.reduceLeDiff, Nat.reduceEqDiff, Nat.reduceMod, Nat.reduceDiv, Int.reduceNeg, Int.reduceLE, Int.reduceLT, Int.reduceToNat, Int.reduceEq, Int.reduceNe, ↓reduceIte,  h1, not_false_eq_true, decide_true]
  have hnm : errName n = 0 := by
    rw [findE] at h1
    split at h1
    · rename_i q; exact absurd h1 q
    split at h1
    · rename_i q; exact absurd h1 q
    · rename_i q; exact Classical.not_not.1 q
  obtain ⟨t, ht, htt⟩ := errName_type hnm
  have oo := OperationsOf_good n.type
  have hin : inB n.type 0 29 = true := (inB_iff _).2 (by omega)
  have hops : opsL n.type = opsN t 9 := by rw [opsL, if_pos hin, htt, Int.toNat_natCast]
  rw [hops, tyE, if_pos hin] at oo
  have hpe : findP d n = placeIx d.objects n := by rw [findP, if_pos h1]
  rw [h1, hpe] at fd
  have hlen := opsN_len t 9
  have ct := ContainsI_good (opsN t 9) (k : Int) (by omega)
  rw [opsN_any t ht k hk] at ct
  have hfe : foundE d n k = if permR t k = false then 39 else 0 := by rw [foundE, if_neg (not_not_intro h1), htt, Int.toNat_natCast]
  cases hp : permR t k with
  | false =>
    rw [hp] at ct
    rw [hfe, hp, show (if (false : Bool) = false then (39 : Int) else 0) = 39 from rfl, if_neg (by decide)]
    refine good_run [] mixed Tryz.func36 rfl Tryz.ntmps36 (rs := [.tmp 6, .tmp 7]) rfl (by decide +kernel) (by kernel_rfl) rfl ?_
    rw [startE_eq 32 _ _ _ rfl rfl]
    set_option maxRecDepth 100000 in simp (maxSteps := 10000000) only [go_sem, Nat.reduceAdd, Nat.reduceSub, Nat.reduceMul, Nat.reduceLT, Nat.reduceLeDiff, Nat.reduceEqDiff, Nat.reduceMod, Nat.reduceDiv, Int.reduceNeg, Int.reduceLE, Int.reduceLT, Int.reduceToNat, Int.reduceEq, Int.reduceNe, ↓reduceIte]
    refine call_of (fd) ?_
    set_option maxRecDepth 100000 in simp (maxSteps := 10000000) only [go_sem, Nat.reduceAdd, Nat.reduceSub, Nat.reduceMul, Nat.reduceLT, Nat.reduceLeDiff, Nat.reduceEqDiff, Nat.reduceMod, Nat.reduceDiv, Int.reduceNeg, Int.reduceLE, Int.reduceLT, Int.reduceToNat, Int.reduceEq, Int.reduceNe, ↓reduceIte,  not_true_eq_false, decide_false]
    refine call_of (oo) ?_
    set_option maxRecDepth 100000 in simp (maxSteps := 10000000) only [go_sem, Nat.reduceAdd, Nat.reduceSub, Nat.reduceMul, Nat.reduceLT, Nat.reduceLeDiff, Nat.reduceEqDiff, Nat.reduceMod, Nat.reduceDiv, Int.reduceNeg, Int.reduceLE, Int.reduceLT, Int.reduceToNat, Int.reduceEq, Int.reduceNe, ↓reduceIte]
    refine call_of (ct) ?_
    set_option maxRecDepth 100000 in simp (maxSteps := 10000000) only [go_sem, Nat.reduceAdd, Nat.reduceSub, Nat.reduceMul, Nat.reduceLT, Nat.reduceLeDiff, Nat.reduceEqDiff, Nat.reduceMod, Nat.reduceDiv, Int.reduceNeg, Int.reduceLE, Int.reduceLT, Int.reduceToNat, Int.reduceEq, Int.reduceNe, ↓reduceIte,  Bool.not_false]
  | true =>
    rw [hp] at ct
    rw [hfe, hp, show (if (true : Bool) = false then (39 : Int) else 0) = 0 from rfl, if_pos rfl]
    refine good_run [] mixed Tryz.func36 rfl Tryz.ntmps36 (rs := [.tmp 6, .tmp 7]) rfl (by decide +kernel) (by kernel_rfl) rfl ?_
    rw [startE_eq 32 _ _ _ rfl rfl]
    set_option maxRecDepth 100000 in simp (maxSteps := 10000000) only [go_sem, Nat.reduceAdd, Nat.reduceSub, Nat.reduceMul, Nat.reduceLT, Nat.reduceLeDiff, Nat.reduceEqDiff, Nat.reduceMod, Nat.reduceDiv, Int.reduceNeg, Int.reduceLE, Int.reduceLT, Int.reduceToNat, Int.reduceEq, Int.reduceNe, ↓reduceIte]
    refine call_of (fd) ?_
    set_option maxRecDepth 100000 in simp (maxSteps := 10000000) only [go_sem, Nat.reduceAdd, Nat.reduceSub, Nat.reduceMul, Nat.reduceLT, Nat.reduceLeDiff, Nat.reduceEqDiff, Nat.reduceMod, Nat.reduceDiv, Int.reduceNeg, Int.reduceLE, Int.reduceLT, Int.reduceToNat, Int.reduceEq, Int.reduceNe, ↓reduceIte,  not_true_eq_false, decide_false]
    refine call_of (oo) ?_
    set_option maxRecDepth 100000 in simp (maxSteps := 10000000) only [go_sem, Nat.reduceAdd, Nat.reduceSub, Nat.reduceMul, Nat.reduceLT, Nat.reduceLeDiff, Nat.reduceEqDiff, Nat.reduceMod, Nat.reduceDiv, Int.reduceNeg, Int.reduceLE, Int.reduceLT, Int.reduceToNat, Int.reduceEq, Int.reduceNe, ↓reduceIte]
    refine call_of (ct) ?_
    set_option maxRecDepth 100000 in simp (maxSteps := 10000000) only [go_sem, Nat.reduceAdd, Nat.reduceSub, Nat.reduceMul, Nat.reduceLT, Nat.reduceLeDiff, Nat.reduceEqDiff, Nat.reduceMod, Nat.reduceDiv, Int.reduceNeg, Int.reduceLE, Int.reduceLT, Int.reduceToNat, Int.reduceEq, Int.reduceNe, ↓reduceIte,  Bool.not_true]

def moveE2 (d : Dir) (n : OName) (s : ByteArray) : Int := if permR n.type.toNat 1 = false then 39 else if ¬ libE d.objects s = 0 then libE d.objects s else if 0 ≤ placeIx d.objects { n with lib := s } then 12 else 0
theorem MoveErr_good (d : Dir) (n : OName) (s : ByteArray) (h : d.objects.length ≤ 1000000) (t : Nat) (ht : t < 30) (htt : n.type = (t : Int)) : Ans Tryz.prog 13 [.agg (encDir d), .agg (encOName n), .str s] (.int .i64 (moveE2 d n s)) := by
  have pm := Permits_good t 1 ht (by decide)
  rw [← htt] at pm
  have rl := RefLib_good d s h
  have pl := Place_good d { n with lib := s } h
  have hpn := place_neg d.objects { n with lib := s }
  cases hp : permR t 1 with
  | false =>
    rw [hp] at pm
    rw [moveE2, htt, Int.toNat_natCast, if_pos hp]
    rw [htt] at pm
    refine good_run [] mixed Tryz.func13 rfl Tryz.ntmps13 (rs := [.tmp 6]) rfl (by decide +kernel) (by kernel_rfl) rfl ?_
    rw [startE_eq 26 _ _ _ rfl rfl]
    set_option maxRecDepth 100000 in simp (maxSteps := 10000000) only [go_sem, Nat.reduceAdd, Nat.reduceSub, Nat.reduceMul, Nat.reduceLT, Nat.reduceLeDiff, Nat.reduceEqDiff, Nat.reduceMod, Nat.reduceDiv, Int.reduceNeg, Int.reduceLE, Int.reduceLT, Int.reduceToNat, Int.reduceEq, Int.reduceNe, ↓reduceIte,  htt]
    refine call_of (pm) ?_
    set_option maxRecDepth 100000 in simp (maxSteps := 10000000) only [go_sem, Nat.reduceAdd, Nat.reduceSub, Nat.reduceMul, Nat.reduceLT, Nat.reduceLeDiff, Nat.reduceEqDiff, Nat.reduceMod, Nat.reduceDiv, Int.reduceNeg, Int.reduceLE, Int.reduceLT, Int.reduceToNat, Int.reduceEq, Int.reduceNe, ↓reduceIte,  Bool.not_false]
  | true =>
  rw [hp] at pm
  have he : moveE2 d n s = if ¬ libE d.objects s = 0 then libE d.objects s else if 0 ≤ placeIx d.objects { n with lib := s } then 12 else 0 := by rw [moveE2, htt, Int.toNat_natCast, if_neg (by rw [hp]; decide)]
  rw [he]
  refine Classical.byCases (fun h1 : libE d.objects s = 0 => ?_) fun h1 => ?_
  case refine_2 =>
    rw [if_pos h1]
    refine good_run [] mixed Tryz.func13 rfl Tryz.ntmps13 (rs := [.tmp 6]) rfl (by decide +kernel) (by kernel_rfl) rfl ?_
    rw [startE_eq 26 _ _ _ rfl rfl]
    set_option maxRecDepth 100000 in simp (maxSteps := 10000000) only [go_sem, Nat.reduceAdd, Nat.reduceSub, Nat.reduceMul, Nat.reduceLT, Nat.reduceLeDiff, Nat.reduceEqDiff, Nat.reduceMod, Nat.reduceDiv, Int.reduceNeg, Int.reduceLE, Int.reduceLT, Int.reduceToNat, Int.reduceEq, Int.reduceNe, ↓reduceIte]
    refine call_of (pm) ?_
    set_option maxRecDepth 100000 in simp (maxSteps := 10000000) only [go_sem, Nat.reduceAdd, Nat.reduceSub, Nat.reduceMul, Nat.reduceLT, Nat.reduceLeDiff, Nat.reduceEqDiff, Nat.reduceMod, Nat.reduceDiv, Int.reduceNeg, Int.reduceLE, Int.reduceLT, Int.reduceToNat, Int.reduceEq, Int.reduceNe, ↓reduceIte,  Bool.not_true]
    refine call_of (rl) ?_
    set_option maxRecDepth 100000 in simp (maxSteps := 10000000) only [go_sem, Nat.reduceAdd, Nat.reduceSub, Nat.reduceMul, Nat.reduceLT, Nat.reduceLeDiff, Nat.reduceEqDiff, Nat.reduceMod, Nat.reduceDiv, Int.reduceNeg, Int.reduceLE, Int.reduceLT, Int.reduceToNat, Int.reduceEq, Int.reduceNe, ↓reduceIte,  h1, not_false_eq_true, decide_true]
  rw [if_neg (not_not_intro h1)]
  refine Classical.byCases (fun h2 : 0 ≤ placeIx d.objects { n with lib := s } => ?_) fun h2 => ?_
  · have h3 : ¬ placeIx d.objects { n with lib := s } = -1 := by omega
    rw [if_pos h2]
    refine good_run [] mixed Tryz.func13 rfl Tryz.ntmps13 (rs := [.tmp 6]) rfl (by decide +kernel) (by kernel_rfl) rfl ?_
    rw [startE_eq 26 _ _ _ rfl rfl]
    set_option maxRecDepth 100000 in simp (maxSteps := 10000000) only [go_sem, Nat.reduceAdd, Nat.reduceSub, Nat.reduceMul, Nat.reduceLT, Nat.reduceLeDiff, Nat.reduceEqDiff, Nat.reduceMod, Nat.reduceDiv, Int.reduceNeg, Int.reduceLE, Int.reduceLT, Int.reduceToNat, Int.reduceEq, Int.reduceNe, ↓reduceIte]
    refine call_of (pm) ?_
    set_option maxRecDepth 100000 in simp (maxSteps := 10000000) only [go_sem, Nat.reduceAdd, Nat.reduceSub, Nat.reduceMul, Nat.reduceLT, Nat.reduceLeDiff, Nat.reduceEqDiff, Nat.reduceMod, Nat.reduceDiv, Int.reduceNeg, Int.reduceLE, Int.reduceLT, Int.reduceToNat, Int.reduceEq, Int.reduceNe, ↓reduceIte,  Bool.not_true]
    refine call_of (rl) ?_
    set_option maxRecDepth 100000 in simp (maxSteps := 10000000) only [go_sem, Nat.reduceAdd, Nat.reduceSub, Nat.reduceMul, Nat.reduceLT, Nat.reduceLeDiff, Nat.reduceEqDiff, Nat.reduceMod, Nat.reduceDiv, Int.reduceNeg, Int.reduceLE, Int.reduceLT, Int.reduceToNat, Int.reduceEq, Int.reduceNe, ↓reduceIte,  h1, not_true_eq_false, decide_false]
    refine call_of (pl) ?_
    set_option maxRecDepth 100000 in simp (maxSteps := 10000000) only [go_sem, Nat.reduceAdd, Nat.reduceSub, Nat.reduceMul, Nat.reduceLT, Nat.reduceLeDiff, Nat.reduceEqDiff, Nat.reduceMod, Nat.reduceDiv, Int.reduceNeg, Int.reduceLE, Int.reduceLT, Int.reduceToNat, Int.reduceEq, Int.reduceNe, ↓reduceIte,  h3, not_false_eq_true, decide_true]
  · have h3 : placeIx d.objects { n with lib := s } = -1 := by
      have := findIx_ge (fun o : Obj => decide (o.name = { n with lib := s })) d.objects 0
      unfold placeIx at h2 ⊢; omega
    rw [if_neg h2]
    refine good_run [] mixed Tryz.func13 rfl Tryz.ntmps13 (rs := [.tmp 6]) rfl (by decide +kernel) (by kernel_rfl) rfl ?_
    rw [startE_eq 26 _ _ _ rfl rfl]
    set_option maxRecDepth 100000 in simp (maxSteps := 10000000) only [go_sem, Nat.reduceAdd, Nat.reduceSub, Nat.reduceMul, Nat.reduceLT, Nat.reduceLeDiff, Nat.reduceEqDiff, Nat.reduceMod, Nat.reduceDiv, Int.reduceNeg, Int.reduceLE, Int.reduceLT, Int.reduceToNat, Int.reduceEq, Int.reduceNe, ↓reduceIte]
    refine call_of (pm) ?_
    set_option maxRecDepth 100000 in simp (maxSteps := 10000000) only [go_sem, Nat.reduceAdd, Nat.reduceSub, Nat.reduceMul, Nat.reduceLT, Nat.reduceLeDiff, Nat.reduceEqDiff, Nat.reduceMod, Nat.reduceDiv, Int.reduceNeg, Int.reduceLE, Int.reduceLT, Int.reduceToNat, Int.reduceEq, Int.reduceNe, ↓reduceIte,  Bool.not_true]
    refine call_of (rl) ?_
    set_option maxRecDepth 100000 in simp (maxSteps := 10000000) only [go_sem, Nat.reduceAdd, Nat.reduceSub, Nat.reduceMul, Nat.reduceLT, Nat.reduceLeDiff, Nat.reduceEqDiff, Nat.reduceMod, Nat.reduceDiv, Int.reduceNeg, Int.reduceLE, Int.reduceLT, Int.reduceToNat, Int.reduceEq, Int.reduceNe, ↓reduceIte,  h1, not_true_eq_false, decide_false]
    refine call_of (pl) ?_
    set_option maxRecDepth 100000 in simp (maxSteps := 10000000) only [go_sem, Nat.reduceAdd, Nat.reduceSub, Nat.reduceMul, Nat.reduceLT, Nat.reduceLeDiff, Nat.reduceEqDiff, Nat.reduceMod, Nat.reduceDiv, Int.reduceNeg, Int.reduceLE, Int.reduceLT, Int.reduceToNat, Int.reduceEq, Int.reduceNe, ↓reduceIte,  h3, not_true_eq_false, decide_false]
end Go.Proofs.YtppjmigiogddpaaGreat.C08
namespace Go.Proofs.YtppjmigiogddpaaGreat.C08
open Go Go.Proofs Go.Proofs.YtppjmigiogddpaaGreat.Ab
set_option linter.unusedSimpArgs false
set_option linter.unusedVariables false
attribute [local congr] ite_ctx

theorem findP_ok {d : Dir} {n : OName} (h : findE d n = 0) : ∃ i : Nat, placeIx d.objects n = (i : Int) ∧ i < d.objects.length := by
  have hk := findE_ok h
  exact ⟨(placeIx d.objects n).toNat, by omega, by omega⟩
theorem le_noDir (e : Int) : AVle (.tup [.agg [.nils, .int .i64 0], .int .i64 e]) (.tup [.agg (encDir noDir), .int .i64 e]) := .tup' (.cons (.agg' (.cons .nils (.cons (.refl _) .nil))) (.cons (.refl _) .nil))

theorem mv1_good (n : OName) (o : Obj) : Ans Tryz.prog 39 [.agg (encObj o), .ptr (encOName n)] (.bool (decide (o.name = n))) := by
  refine good_run [] mixed Tryz.func39 rfl Tryz.ntmps39 (rs := [.tmp 3]) rfl (by decide +kernel) (by kernel_rfl) rfl ?_
  rw [startE_eq 8 _ _ _ rfl rfl]
  set_option maxRecDepth 100000 in simp (maxSteps := 10000000) only [go_sem, Nat.reduceAdd, Nat.reduceSub, Nat.reduceMul, Nat.reduceLT, Nat.reduceLeDiff, Nat.reduceEqDiff, Nat.reduceMod, Nat.reduceDiv, Int.reduceNeg, Int.reduceLE, Int.reduceLT, Int.reduceToNat, Int.reduceEq, Int.reduceNe, ↓reduceIte]
  rw [← name_eq]
set_option maxHeartbeats 4000000 in
theorem mv2_good (a b : OT) : Ans Tryz.prog 42 [.agg (encObj a.1), .agg (encObj b.1)] (.int .i64 (cfM a b)) := by
  obtain ⟨a, ha1, ha2⟩ := a
  obtain ⟨b, hb1, hb2⟩ := b
  show Ans Tryz.prog 42 [.agg (encObj a), .agg (encObj b)] (.int .i64 (cmpM a.name b.name))
  have c1 := Compare_good a.name.lib b.name.lib
  have c2 := Compare_good a.name.name b.name.name
  refine Classical.byCases (fun h1 : a.name.lib = b.name.lib => ?_) fun h1 => ?_
  case refine_2 =>
    rw [cmpM, if_pos h1]
    refine good_run [] mixed Tryz.func42 rfl Tryz.ntmps42 (rs := [.tmp 4]) rfl (by decide +kernel) (by kernel_rfl) rfl ?_
    rw [startE_eq 38 _ _ _ rfl rfl]
    set_option maxRecDepth 100000 in simp (maxSteps := 10000000) only [go_sem, Nat.reduceAdd, Nat.reduceSub, Nat.reduceMul, Nat.reduceLT, Nat.reduceLeDiff, Nat.reduceEqDiff, Nat.reduceMod, Nat.reduceDiv, Int.reduceNeg, Int.reduceLE, Int.reduceLT, Int.reduceToNat, Int.reduceEq, Int.reduceNe, ↓reduceIte,  eq_false h1, decide_false, not_false_eq_true, decide_true, Bool.not_false]
    refine ⟨by decide +kernel, ?_⟩
    refine call_of (c1) ?_
    set_option maxRecDepth 100000 in simp (maxSteps := 10000000) only [go_sem, Nat.reduceAdd, Nat.reduceSub, Nat.reduceMul, Nat.reduceLT, Nat.reduceLeDiff, Nat.reduceEqDiff, Nat.reduceMod, Nat.reduceDiv, Int.reduceNeg, Int.reduceLE, Int.reduceLT, Int.reduceToNat, Int.reduceEq, Int.reduceNe, ↓reduceIte]
  rw [cmpM, if_neg (not_not_intro h1)]
  refine Classical.byCases (fun h2 : a.name.name = b.name.name => ?_) fun h2 => ?_
  case refine_2 =>
    rw [if_pos h2]
    refine good_run [] mixed Tryz.func42 rfl Tryz.ntmps42 (rs := [.tmp 4]) rfl (by decide +kernel) (by kernel_rfl) rfl ?_
    rw [startE_eq 38 _ _ _ rfl rfl]
    set_option maxRecDepth 100000 in simp (maxSteps := 10000000) only [go_sem, Nat.reduceAdd, Nat.reduceSub, Nat.reduceMul, Nat.reduceLT, Nat.reduceLeDiff, Nat.reduceEqDiff, Nat.reduceMod, Nat.reduceDiv, Int.reduceNeg, Int.reduceLE, Int.reduceLT, Int.reduceToNat, Int.reduceEq, Int.reduceNe, ↓reduceIte,  eq_true h1, eq_false h2, decide_false, not_false_eq_true, decide_true, Bool.not_false, Bool.not_true, not_true_eq_false]
    refine ⟨by decide +kernel, ?_⟩
    refine call_of (c2) ?_
    set_option maxRecDepth 100000 in simp (maxSteps := 10000000) only [go_sem, Nat.reduceAdd, Nat.reduceSub, Nat.reduceMul, Nat.reduceLT, Nat.reduceLeDiff, Nat.reduceEqDiff, Nat.reduceMod, Nat.reduceDiv, Int.reduceNeg, Int.reduceLE, Int.reduceLT, Int.reduceToNat, Int.reduceEq, Int.reduceNe, ↓reduceIte]
  rw [if_neg (not_not_intro h2)]
  refine good_run [] mixed Tryz.func42 rfl Tryz.ntmps42 (rs := [.tmp 4]) rfl (by decide +kernel) (by kernel_rfl) rfl ?_
  rw [startE_eq 38 _ _ _ rfl rfl]
  set_option maxRecDepth 100000 in simp (maxSteps := 10000000) only [go_sem, Nat.reduceAdd, Nat.reduceSub, Nat.reduceMul, Nat.reduceLT, Nat.reduceLeDiff, Nat.reduceEqDiff, Nat.reduceMod, Nat.reduceDiv, Int.reduceNeg, Int.reduceLE, Int.reduceLT, Int.reduceToNat, Int.reduceEq, Int.reduceNe, ↓reduceIte,  eq_true h1, eq_true h2, decide_false, not_false_eq_true, decide_true, Bool.not_false, Bool.not_true, not_true_eq_false, wrap_small (show -1000000 ≤ a.name.type - b.name.type by omega) (show a.name.type - b.name.type ≤ 1000000 by omega)]
  decide +kernel

def moveE (d : Dir) (n : OName) (s : ByteArray) : Int := if ¬ foundE d n 1 = 0 then foundE d n 1 else if ¬ libE d.objects s = 0 then libE d.objects s else if 0 ≤ placeIx d.objects ⟨s, n.name, n.type⟩ then 12 else 0
def movedD (d : Dir) (n : OName) (s : ByteArray) : Dir := ⟨insO { nth d.objects (placeIx d.objects n).toNat with name := ⟨s, n.name, n.type⟩ } (withoutL d.objects (placeIx d.objects n).toNat), d.next⟩
def moveP (d : Dir) (n : OName) (s : ByteArray) : Dir := if moveE d n s = 0 then movedD d n s else noDir
theorem moveE_eq (d : Dir) (n : OName) (s : ByteArray) : moveE d n s = if ¬ findE d n = 0 then findE d n else moveE2 d n s := by
  rw [moveE, moveE2, foundE]
  by_cases h1 : findE d n = 0
  · rw [if_neg (not_not_intro h1), if_neg (not_not_intro h1)]
    by_cases h2 : permR n.type.toNat 1 = false
    · rw [if_pos h2, if_pos h2, if_pos (by decide)]
    · rw [if_neg h2, if_neg h2, if_neg (by decide)]
  · rw [if_pos h1, if_pos h1, if_pos h1]

set_option maxHeartbeats 8000000 in
theorem Move_good (d : Dir) (n : OName) (s : ByteArray) (h : d.objects.length ≤ 1000000) : Ans Tryz.prog 10 [.agg (encDir d), .agg (encOName n), .str s] (.tup [.agg (encDir (moveP d n s)), .int .i64 (moveE d n s)]) := by
  have r1 := permitted_good d n 1 (by decide) h
  refine Classical.byCases (fun h1 : foundE d n 1 = 0 => ?_) fun h1 => ?_
  case refine_2 =>
    have he : moveE d n s = foundE d n 1 := by rw [moveE, if_pos h1]
    rw [moveP, if_neg (by rw [he]; exact h1), he]
    refine Ans.le (r := .tup [.agg [.nils, .int .i64 0], .int .i64 (foundE d n 1)]) ?_ (le_noDir _) rfl
    refine good_run [] mixed Tryz.func10 rfl Tryz.ntmps10 (rs := [.cell 6 24, .tmp 7]) rfl (by decide +kernel) (by kernel_rfl) rfl ?_
    rw [startE_eq 49 _ _ _ rfl rfl]
    set_option maxRecDepth 100000 in simp (maxSteps := 10000000) only [go_sem, Nat.reduceAdd, Nat.reduceSub, Nat.reduceMul, Nat.reduceLT, Nat.reduceLeDiff, Nat.reduceEqDiff, Nat.reduceMod, Nat.reduceDiv, Int.reduceNeg, Int.reduceLE, Int.reduceLT, Int.reduceToNat, Int.reduceEq, Int.reduceNe, ↓reduceIte]
    refine call_of (r1) ?_
    set_option maxRecDepth 100000 in simp (maxSteps := 10000000) only [go_sem, Nat.reduceAdd, Nat.reduceSub, Nat.reduceMul, Nat.reduceLT, Nat.reduceLeDiff, Nat.reduceEqDiff, Nat.reduceMod, Nat.reduceDiv, Int.reduceNeg, Int.reduceLE, Int.reduceLT, Int.reduceToNat, Int.reduceEq, Int.reduceNe, ↓reduceIte,  h1, decide_true, decide_false, not_false_eq_true]
  have r2 := known_good d s h
  rw [if_pos h1, h1] at r1
  refine Classical.byCases (fun h2 : libE d.objects s = 0 => ?_) fun h2 => ?_
  case refine_2 =>
    have he : moveE d n s = libE d.objects s := by rw [moveE, if_neg (not_not_intro h1), if_pos h2]
    rw [moveP, if_neg (by rw [he]; exact h2), he]
    refine Ans.le (r := .tup [.agg [.nils, .int .i64 0], .int .i64 (libE d.objects s)]) ?_ (le_noDir _) rfl
    refine good_run [] mixed Tryz.func10 rfl Tryz.ntmps10 (rs := [.cell 6 24, .tmp 7]) rfl (by decide +kernel) (by kernel_rfl) rfl ?_
    rw [startE_eq 49 _ _ _ rfl rfl]
    set_option maxRecDepth 100000 in simp (maxSteps := 10000000) only [go_sem, Nat.reduceAdd, Nat.reduceSub, Nat.reduceMul, Nat.reduceLT, Nat.reduceLeDiff, Nat.reduceEqDiff, Nat.reduceMod, Nat.reduceDiv, Int.reduceNeg, Int.reduceLE, Int.reduceLT, Int.reduceToNat, Int.reduceEq, Int.reduceNe, ↓reduceIte]
    refine call_of (r1) ?_
    set_option maxRecDepth 100000 in simp (maxSteps := 10000000) only [go_sem, Nat.reduceAdd, Nat.reduceSub, Nat.reduceMul, Nat.reduceLT, Nat.reduceLeDiff, Nat.reduceEqDiff, Nat.reduceMod, Nat.reduceDiv, Int.reduceNeg, Int.reduceLE, Int.reduceLT, Int.reduceToNat, Int.reduceEq, Int.reduceNe, ↓reduceIte,  decide_true, eq_self]
    refine call_of (r2) ?_
    set_option maxRecDepth 100000 in simp (maxSteps := 10000000) only [go_sem, Nat.reduceAdd, Nat.reduceSub, Nat.reduceMul, Nat.reduceLT, Nat.reduceLeDiff, Nat.reduceEqDiff, Nat.reduceMod, Nat.reduceDiv, Int.reduceNeg, Int.reduceLE, Int.reduceLT, Int.reduceToNat, Int.reduceEq, Int.reduceNe, ↓reduceIte,  h2, decide_true, not_false_eq_true]
  rw [h2] at r2
  have r3 := ContainsO_good (mv1_good ⟨s, n.name, n.type⟩) d.objects h
  rw [← findIx_any (fun o : Obj => decide (o.name = (⟨s, n.name, n.type⟩ : OName))) d.objects 0] at r3
  change Ans Tryz.prog 38 [.sl (d.objects.map encObj), .fn 39 [.ptr [.str s, .str n.name, .int .i64 n.type]]] (.bool (decide (0 ≤ placeIx d.objects ⟨s, n.name, n.type⟩))) at r3
  refine Classical.byCases (fun h3 : 0 ≤ placeIx d.objects ⟨s, n.name, n.type⟩ => ?_) fun h3 => ?_
  · have he : moveE d n s = 12 := by rw [moveE, if_neg (not_not_intro h1), if_neg (not_not_intro h2), if_pos h3]
    rw [moveP, if_neg (by rw [he]; decide), he]
    rw [decide_eq_true h3] at r3
    refine Ans.le (r := .tup [.agg [.nils, .int .i64 0], .int .i64 12]) ?_ (le_noDir _) rfl
    refine good_run [] mixed Tryz.func10 rfl Tryz.ntmps10 (rs := [.cell 6 24, .tmp 7]) rfl (by decide +kernel) (by kernel_rfl) rfl ?_
    rw [startE_eq 49 _ _ _ rfl rfl]
    set_option maxRecDepth 100000 in simp (maxSteps := 10000000) only [go_sem, Nat.reduceAdd, Nat.reduceSub, Nat.reduceMul, Nat.reduceLT, Nat.reduceLeDiff, Nat.reduceEqDiff, Nat.reduceMod, Nat.reduceDiv, Int.reduceNeg, Int.reduceLE, Int.reduceLT, Int.reduceToNat, Int.reduceEq, Int.reduceNe, ↓reduceIte]
    refine call_of (r1) ?_
    set_option maxRecDepth 100000 in simp (maxSteps := 10000000) only [go_sem, Nat.reduceAdd, Nat.reduceSub, Nat.reduceMul, Nat.reduceLT, Nat.reduceLeDiff, Nat.reduceEqDiff, Nat.reduceMod, Nat.reduceDiv, Int.reduceNeg, Int.reduceLE, Int.reduceLT, Int.reduceToNat, Int.reduceEq, Int.reduceNe, ↓reduceIte,  decide_true, eq_self]
    refine call_of (r2) ?_
    set_option maxRecDepth 100000 in simp (maxSteps := 10000000) only [go_sem, Nat.reduceAdd, Nat.reduceSub, Nat.reduceMul, Nat.reduceLT, Nat.reduceLeDiff, Nat.reduceEqDiff, Nat.reduceMod, Nat.reduceDiv, Int.reduceNeg, Int.reduceLE, Int.reduceLT, Int.reduceToNat, Int.reduceEq, Int.reduceNe, ↓reduceIte,  not_true_eq_false, decide_false]
    refine call_of (r3) ?_
    set_option maxRecDepth 100000 in simp (maxSteps := 10000000) only [go_sem, Nat.reduceAdd, Nat.reduceSub, Nat.reduceMul, Nat.reduceLT, Nat.reduceLeDiff, Nat.reduceEqDiff, Nat.reduceMod, Nat.reduceDiv, Int.reduceNeg, Int.reduceLE, Int.reduceLT, Int.reduceToNat, Int.reduceEq, Int.reduceNe, ↓reduceIte]
  have he : moveE d n s = 0 := by rw [moveE, if_neg (not_not_intro h1), if_neg (not_not_intro h2), if_neg h3]
  rw [decide_eq_false h3] at r3
  have hfo := (foundE_ok h1).1
  obtain ⟨i, hx, hi⟩ := findP_ok hfo
  have hd := (findE_ok hfo).1
  rw [moveP, if_pos he, he, movedD, hx, Int.toNat_natCast]
  rw [hx] at r1
  have hty := obj_type hd (List.getElem_mem hi)
  rw [← nth_eq hi, place_name hx] at hty
  have hP : ∀ o ∈ d.objects.set i { nth d.objects i with name := (⟨s, n.name, n.type⟩ : OName) }, 0 ≤ o.name.type ∧ o.name.type ≤ 29 := fun o ho => by
    rcases List.mem_or_eq_of_mem_set ho with q | rfl
    · exact obj_type hd q
    · exact hty
  have hL := List.attachWith_map_subtype_val hP
  generalize List.attachWith _ _ hP = L at hL
  have hsrt := mv_sort hi (dir_sorted hd) (o := { nth d.objects i with name := (⟨s, n.name, n.type⟩ : OName) }) (place_no h3) L hL
  have hset : (List.map encObj d.objects).set i [.str s, .str n.name, .int .i64 n.type, .str (nth d.objects i).owner, .int .i64 (nth d.objects i).seg, .str (nth d.objects i).text, .str (nth d.objects i).content] = L.map fun x => encObj x.1 := by
    have : (L.map fun x => encObj x.1) = (L.map (·.1)).map encObj := by rw [List.map_map]; rfl
    rw [this, hL, List.map_set]; rfl
  have hres : ((sortG cfM L).map fun x => encObj x.1) = List.map encObj (insO { nth d.objects i with name := (⟨s, n.name, n.type⟩ : OName) } (withoutL d.objects i)) := by
    rw [← hsrt, List.map_map]; rfl
  have hlen : L.length = d.objects.length := by
    have := congrArg List.length hL
    rwa [List.length_map, List.length_set] at this
  have r4 := SortFuncG (fun x : OT => x.1) cfM swoM 42 mv2_good (enters_of Tryz.func42 (by kernel_rfl) rfl) L (by omega) (by omega)
  rw [hres] at r4
  have hq := map_at encObj hi
  have q1 : (0 : Int) ≤ (i : Int) := by omega
  have q2 : (i : Int) < (d.objects.length : Int) := by omega
  refine good_run [] mixed Tryz.func10 rfl Tryz.ntmps10 (rs := [.cell 6 24, .tmp 7]) rfl (by decide +kernel) (by kernel_rfl) rfl ?_
  rw [startE_eq 49 _ _ _ rfl rfl]
  set_option maxRecDepth 100000 in simp (maxSteps := 10000000) only [go_sem, Nat.reduceAdd, Nat.reduceSub, Nat.reduceMul, Nat.reduceLT, Nat.reduceLeDiff, Nat.reduceEqDiff, Nat.reduceMod, Nat.reduceDiv, Int.reduceNeg, Int.reduceLE, Int.reduceLT, Int.reduceToNat, Int.reduceEq, Int.reduceNe, ↓reduceIte]
  refine call_of (r1) ?_
  set_option maxRecDepth 100000 in simp (maxSteps := 10000000) only [go_sem, Nat.reduceAdd, Nat.reduceSub, Nat.reduceMul, Nat.reduceLT, Nat.reduceLeDiff, Nat.reduceEqDiff, Nat.reduceMod, Nat.reduceDiv, Int.reduceNeg, Int.reduceLE, Int.reduceLT, Int.reduceToNat, Int.reduceEq, Int.reduceNe, ↓reduceIte,  decide_true, eq_self]
  refine call_of (r2) ?_
  set_option maxRecDepth 100000 in simp (maxSteps := 10000000) only [go_sem, Nat.reduceAdd, Nat.reduceSub, Nat.reduceMul, Nat.reduceLT, Nat.reduceLeDiff, Nat.reduceEqDiff, Nat.reduceMod, Nat.reduceDiv, Int.reduceNeg, Int.reduceLE, Int.reduceLT, Int.reduceToNat, Int.reduceEq, Int.reduceNe, ↓reduceIte,  not_true_eq_false, decide_false]
  refine call_of (r3) ?_
  set_option maxRecDepth 100000 in simp (maxSteps := 10000000) only [go_sem, Nat.reduceAdd, Nat.reduceSub, Nat.reduceMul, Nat.reduceLT, Nat.reduceLeDiff, Nat.reduceEqDiff, Nat.reduceMod, Nat.reduceDiv, Int.reduceNeg, Int.reduceLE, Int.reduceLT, Int.reduceToNat, Int.reduceEq, Int.reduceNe, ↓reduceIte]
  refine callM_of [] [37] (CloneM d.objects h) ⟨rfl, rfl, rfl, by simp, by simp, by simp, by simp, rfl, rfl, rfl, onodup_of (l := [7]) rfl (by decide)⟩ ?_
  set_option maxRecDepth 100000 in simp (maxSteps := 10000000) only [go_sem, Nat.reduceAdd, Nat.reduceSub, Nat.reduceMul, Nat.reduceLT, Nat.reduceLeDiff, Nat.reduceEqDiff, Nat.reduceMod, Nat.reduceDiv, Int.reduceNeg, Int.reduceLE, Int.reduceLT, Int.reduceToNat, Int.reduceEq, Int.reduceNe, ↓reduceIte,  hq, hi, q1, q2, Option.map_some, Int.toNat_natCast, List.length_map, hset]
  refine callM_of [37] [37] (r4) ⟨by simp [renA, ren1, invM, posOf, verOf, AV.cellP, Env.go], rfl, rfl, by simp, by simp, by simp, by simp, rfl, rfl, rfl, onodup_of (l := [2]) rfl (by decide)⟩ ?_
  set_option maxRecDepth 100000 in simp (maxSteps := 10000000) only [go_sem, Nat.reduceAdd, Nat.reduceSub, Nat.reduceMul, Nat.reduceLT, Nat.reduceLeDiff, Nat.reduceEqDiff, Nat.reduceMod, Nat.reduceDiv, Int.reduceNeg, Int.reduceLE, Int.reduceLT, Int.reduceToNat, Int.reduceEq, Int.reduceNe, ↓reduceIte]
  done
end Go.Proofs.YtppjmigiogddpaaGreat.C08
namespace Go.Proofs.YtppjmigiogddpaaGreat.C08
open Go Go.Proofs Go.Proofs.YtppjmigiogddpaaGreat.Ab
set_option linter.unusedSimpArgs false
set_option linter.unusedVariables false
attribute [local congr] ite_ctx

theorem without_len (l : List Obj) {i : Nat} (h : i < l.length) : (withoutL l i).length + 1 = l.length := by
  rw [withoutL, List.length_append, List.length_take, List.length_drop]; omega
set_option maxHeartbeats 4000000 in
theorem Moved_good (d : Dir) (n : OName) (s : ByteArray) (h : d.objects.length ≤ 1000000) (i : Nat) (hx : placeIx d.objects n = (i : Int)) (hi : i < d.objects.length) : Ans Tryz.prog 16 [.agg (encDir d), .agg (encOName n), .str s] (.agg (encDir (movedD d n s))) := by
  have r1 := Place_good d n h
  have hn := place_name hx
  have hq := map_at encObj hi
  have q1 : (0 : Int) ≤ (i : Int) := by omega
  have q2 : (i : Int) < (d.objects.length : Int) := by omega
  have r2 := Without_good d i h hi
  have r3 := With_good ⟨withoutL d.objects i, d.next⟩ { nth d.objects i with name := ⟨s, (nth d.objects i).name.name, (nth d.objects i).name.type⟩ } (by have := without_len d.objects hi; show (withoutL d.objects i).length ≤ _; omega)
  rw [hx] at r1
  rw [movedD, hx, Int.toNat_natCast, ← hn]
  rw [← hn] at r1
  refine good_run [] mixed Tryz.func16 rfl Tryz.ntmps16 (rs := [.cell 6 24]) rfl (by decide +kernel) (by kernel_rfl) rfl ?_
  rw [startE_eq 25 _ _ _ rfl rfl]
  set_option maxRecDepth 100000 in simp (maxSteps := 10000000) only [go_sem, Nat.reduceAdd, Nat.reduceSub, Nat.reduceMul, Nat.reduceLT, Nat.reduceLeDiff, Nat.reduceEqDiff, Nat.reduceMod, Nat.reduceDiv, Int.reduceNeg, Int.reduceLE, Int.reduceLT, Int.reduceToNat, Int.reduceEq, Int.reduceNe, ↓reduceIte]
  refine call_of (r1) ?_
  set_option maxRecDepth 100000 in simp (maxSteps := 10000000) only [go_sem, Nat.reduceAdd, Nat.reduceSub, Nat.reduceMul, Nat.reduceLT, Nat.reduceLeDiff, Nat.reduceEqDiff, Nat.reduceMod, Nat.reduceDiv, Int.reduceNeg, Int.reduceLE, Int.reduceLT, Int.reduceToNat, Int.reduceEq, Int.reduceNe, ↓reduceIte,  hq, hi, q1, q2, Option.map_some, Int.toNat_natCast, List.length_map]
  refine callD_of (r2) ?_
  set_option maxRecDepth 100000 in simp (maxSteps := 10000000) only [go_sem, Nat.reduceAdd, Nat.reduceSub, Nat.reduceMul, Nat.reduceLT, Nat.reduceLeDiff, Nat.reduceEqDiff, Nat.reduceMod, Nat.reduceDiv, Int.reduceNeg, Int.reduceLE, Int.reduceLT, Int.reduceToNat, Int.reduceEq, Int.reduceNe, ↓reduceIte]
  refine callD_of (r3) ?_
  set_option maxRecDepth 100000 in simp (maxSteps := 10000000) only [go_sem, Nat.reduceAdd, Nat.reduceSub, Nat.reduceMul, Nat.reduceLT, Nat.reduceLeDiff, Nat.reduceEqDiff, Nat.reduceMod, Nat.reduceDiv, Int.reduceNeg, Int.reduceLE, Int.reduceLT, Int.reduceToNat, Int.reduceEq, Int.reduceNe, ↓reduceIte]
  decide +kernel

set_option maxHeartbeats 8000000 in
theorem LibraryMoves_good (d : Dir) (n : OName) (s : ByteArray) : Ans Tryz.prog 3 [.agg (encDir d), .agg (encOName n), .str s] (.bool true) := by
  have fd := fewDirectory_good d
  have fn := fewName_good n
  cases hd : fewD d with
  | false =>
    rw [hd] at fd
    refine good_run [] mixed Tryz.func3 rfl Tryz.ntmps3 (rs := [.tmp 6]) rfl (by decide +kernel) (by kernel_rfl) rfl ?_
    rw [startE_eq 61 _ _ _ rfl rfl]
    set_option maxRecDepth 100000 in simp (maxSteps := 10000000) only [go_sem, Nat.reduceAdd, Nat.reduceSub, Nat.reduceMul, Nat.reduceLT, Nat.reduceLeDiff, Nat.reduceEqDiff, Nat.reduceMod, Nat.reduceDiv, Int.reduceNeg, Int.reduceLE, Int.reduceLT, Int.reduceToNat, Int.reduceEq, Int.reduceNe, ↓reduceIte]
    refine call_of (awake_good) ?_
    set_option maxRecDepth 100000 in simp (maxSteps := 10000000) only [go_sem, Nat.reduceAdd, Nat.reduceSub, Nat.reduceMul, Nat.reduceLT, Nat.reduceLeDiff, Nat.reduceEqDiff, Nat.reduceMod, Nat.reduceDiv, Int.reduceNeg, Int.reduceLE, Int.reduceLT, Int.reduceToNat, Int.reduceEq, Int.reduceNe, ↓reduceIte,  Bool.not_true]
    refine call_of (fd) ?_
    set_option maxRecDepth 100000 in simp (maxSteps := 10000000) only [go_sem, Nat.reduceAdd, Nat.reduceSub, Nat.reduceMul, Nat.reduceLT, Nat.reduceLeDiff, Nat.reduceEqDiff, Nat.reduceMod, Nat.reduceDiv, Int.reduceNeg, Int.reduceLE, Int.reduceLT, Int.reduceToNat, Int.reduceEq, Int.reduceNe, ↓reduceIte,  Bool.not_false]
  | true =>
  rw [hd] at fd
  have hl : d.objects.length ≤ 1000000 := fewD_len hd
  cases hn : fewN n with
  | false =>
    rw [hn] at fn
    refine good_run [] mixed Tryz.func3 rfl Tryz.ntmps3 (rs := [.tmp 6]) rfl (by decide +kernel) (by kernel_rfl) rfl ?_
    rw [startE_eq 61 _ _ _ rfl rfl]
    set_option maxRecDepth 100000 in simp (maxSteps := 10000000) only [go_sem, Nat.reduceAdd, Nat.reduceSub, Nat.reduceMul, Nat.reduceLT, Nat.reduceLeDiff, Nat.reduceEqDiff, Nat.reduceMod, Nat.reduceDiv, Int.reduceNeg, Int.reduceLE, Int.reduceLT, Int.reduceToNat, Int.reduceEq, Int.reduceNe, ↓reduceIte]
    refine call_of (awake_good) ?_
    set_option maxRecDepth 100000 in simp (maxSteps := 10000000) only [go_sem, Nat.reduceAdd, Nat.reduceSub, Nat.reduceMul, Nat.reduceLT, Nat.reduceLeDiff, Nat.reduceEqDiff, Nat.reduceMod, Nat.reduceDiv, Int.reduceNeg, Int.reduceLE, Int.reduceLT, Int.reduceToNat, Int.reduceEq, Int.reduceNe, ↓reduceIte,  Bool.not_true]
    refine call_of (fd) ?_
    set_option maxRecDepth 100000 in simp (maxSteps := 10000000) only [go_sem, Nat.reduceAdd, Nat.reduceSub, Nat.reduceMul, Nat.reduceLT, Nat.reduceLeDiff, Nat.reduceEqDiff, Nat.reduceMod, Nat.reduceDiv, Int.reduceNeg, Int.reduceLE, Int.reduceLT, Int.reduceToNat, Int.reduceEq, Int.reduceNe, ↓reduceIte,  Bool.not_true]
    refine call_of (fn) ?_
    set_option maxRecDepth 100000 in simp (maxSteps := 10000000) only [go_sem, Nat.reduceAdd, Nat.reduceSub, Nat.reduceMul, Nat.reduceLT, Nat.reduceLeDiff, Nat.reduceEqDiff, Nat.reduceMod, Nat.reduceDiv, Int.reduceNeg, Int.reduceLE, Int.reduceLT, Int.reduceToNat, Int.reduceEq, Int.reduceNe, ↓reduceIte,  Bool.not_false]
  | true =>
  rw [hn] at fn
  refine Classical.byCases (fun hs : (100 : Int) < (s.size : Int) => ?_) fun hs => ?_
  · have _ := hs
    refine good_run [] mixed Tryz.func3 rfl Tryz.ntmps3 (rs := [.tmp 6]) rfl (by decide +kernel) (by kernel_rfl) rfl ?_
    rw [startE_eq 61 _ _ _ rfl rfl]
    set_option maxRecDepth 100000 in simp (maxSteps := 10000000) only [go_sem, Nat.reduceAdd, Nat.reduceSub, Nat.reduceMul, Nat.reduceLT, Nat.reduceLeDiff, Nat.reduceEqDiff, Nat.reduceMod, Nat.reduceDiv, Int.reduceNeg, Int.reduceLE, Int.reduceLT, Int.reduceToNat, Int.reduceEq, Int.reduceNe, ↓reduceIte]
    refine call_of (awake_good) ?_
    set_option maxRecDepth 100000 in simp (maxSteps := 10000000) only [go_sem, Nat.reduceAdd, Nat.reduceSub, Nat.reduceMul, Nat.reduceLT, Nat.reduceLeDiff, Nat.reduceEqDiff, Nat.reduceMod, Nat.reduceDiv, Int.reduceNeg, Int.reduceLE, Int.reduceLT, Int.reduceToNat, Int.reduceEq, Int.reduceNe, ↓reduceIte,  Bool.not_true]
    refine call_of (fd) ?_
    set_option maxRecDepth 100000 in simp (maxSteps := 10000000) only [go_sem, Nat.reduceAdd, Nat.reduceSub, Nat.reduceMul, Nat.reduceLT, Nat.reduceLeDiff, Nat.reduceEqDiff, Nat.reduceMod, Nat.reduceDiv, Int.reduceNeg, Int.reduceLE, Int.reduceLT, Int.reduceToNat, Int.reduceEq, Int.reduceNe, ↓reduceIte,  Bool.not_true]
    refine call_of (fn) ?_
    set_option maxRecDepth 100000 in simp (maxSteps := 10000000) only [go_sem, Nat.reduceAdd, Nat.reduceSub, Nat.reduceMul, Nat.reduceLT, Nat.reduceLeDiff, Nat.reduceEqDiff, Nat.reduceMod, Nat.reduceDiv, Int.reduceNeg, Int.reduceLE, Int.reduceLT, Int.reduceToNat, Int.reduceEq, Int.reduceNe, ↓reduceIte,  Bool.not_true, hs, decide_true]
  have c1 := Own_good d (by omega)
  have c2 := Move_good d n s (by omega)
  have c3 := FindErr_good d n (by omega)
  have he := moveE_eq d n s
  refine Classical.byCases (fun h1 : findE d n = 0 => ?_) fun h1 => ?_
  case refine_2 =>
    rw [if_pos h1] at he
    have c4 := none_good noDir
    rw [moveP, if_neg (by rw [he]; exact h1), he] at c2
    refine good_run [] mixed Tryz.func3 rfl Tryz.ntmps3 (rs := [.tmp 6]) rfl (by decide +kernel) (by kernel_rfl) rfl ?_
    rw [startE_eq 61 _ _ _ rfl rfl]
    set_option maxRecDepth 100000 in simp (maxSteps := 10000000) only [go_sem, Nat.reduceAdd, Nat.reduceSub, Nat.reduceMul, Nat.reduceLT, Nat.reduceLeDiff, Nat.reduceEqDiff, Nat.reduceMod, Nat.reduceDiv, Int.reduceNeg, Int.reduceLE, Int.reduceLT, Int.reduceToNat, Int.reduceEq, Int.reduceNe, ↓reduceIte]
    refine call_of (awake_good) ?_
    set_option maxRecDepth 100000 in simp (maxSteps := 10000000) only [go_sem, Nat.reduceAdd, Nat.reduceSub, Nat.reduceMul, Nat.reduceLT, Nat.reduceLeDiff, Nat.reduceEqDiff, Nat.reduceMod, Nat.reduceDiv, Int.reduceNeg, Int.reduceLE, Int.reduceLT, Int.reduceToNat, Int.reduceEq, Int.reduceNe, ↓reduceIte,  Bool.not_true]
    refine call_of (fd) ?_
    set_option maxRecDepth 100000 in simp (maxSteps := 10000000) only [go_sem, Nat.reduceAdd, Nat.reduceSub, Nat.reduceMul, Nat.reduceLT, Nat.reduceLeDiff, Nat.reduceEqDiff, Nat.reduceMod, Nat.reduceDiv, Int.reduceNeg, Int.reduceLE, Int.reduceLT, Int.reduceToNat, Int.reduceEq, Int.reduceNe, ↓reduceIte,  Bool.not_true]
    refine call_of (fn) ?_
    set_option maxRecDepth 100000 in simp (maxSteps := 10000000) only [go_sem, Nat.reduceAdd, Nat.reduceSub, Nat.reduceMul, Nat.reduceLT, Nat.reduceLeDiff, Nat.reduceEqDiff, Nat.reduceMod, Nat.reduceDiv, Int.reduceNeg, Int.reduceLE, Int.reduceLT, Int.reduceToNat, Int.reduceEq, Int.reduceNe, ↓reduceIte,  Bool.not_true, hs, decide_false]
    refine callD_of (c1) ?_
    set_option maxRecDepth 100000 in simp (maxSteps := 10000000) only [go_sem, Nat.reduceAdd, Nat.reduceSub, Nat.reduceMul, Nat.reduceLT, Nat.reduceLeDiff, Nat.reduceEqDiff, Nat.reduceMod, Nat.reduceDiv, Int.reduceNeg, Int.reduceLE, Int.reduceLT, Int.reduceToNat, Int.reduceEq, Int.reduceNe, ↓reduceIte]
    refine callD_of (c2) ?_
    set_option maxRecDepth 100000 in simp (maxSteps := 10000000) only [go_sem, Nat.reduceAdd, Nat.reduceSub, Nat.reduceMul, Nat.reduceLT, Nat.reduceLeDiff, Nat.reduceEqDiff, Nat.reduceMod, Nat.reduceDiv, Int.reduceNeg, Int.reduceLE, Int.reduceLT, Int.reduceToNat, Int.reduceEq, Int.reduceNe, ↓reduceIte]
    refine ⟨by decide +kernel, ?_⟩
    refine call_of (c3) ?_
    set_option maxRecDepth 100000 in simp (maxSteps := 10000000) only [go_sem, Nat.reduceAdd, Nat.reduceSub, Nat.reduceMul, Nat.reduceLT, Nat.reduceLeDiff, Nat.reduceEqDiff, Nat.reduceMod, Nat.reduceDiv, Int.reduceNeg, Int.reduceLE, Int.reduceLT, Int.reduceToNat, Int.reduceEq, Int.reduceNe, ↓reduceIte,  h1, decide_true, decide_false, not_false_eq_true]
    refine call_of (c4) ?_
    set_option maxRecDepth 100000 in simp (maxSteps := 10000000) only [go_sem, Nat.reduceAdd, Nat.reduceSub, Nat.reduceMul, Nat.reduceLT, Nat.reduceLeDiff, Nat.reduceEqDiff, Nat.reduceMod, Nat.reduceDiv, Int.reduceNeg, Int.reduceLE, Int.reduceLT, Int.reduceToNat, Int.reduceEq, Int.reduceNe, ↓reduceIte,  decide_true, eq_self]
  rw [if_neg (not_not_intro h1)] at he
  rw [h1] at c3
  obtain ⟨i, hx, hi⟩ := findP_ok h1
  obtain ⟨t, ht, htt⟩ := errName_type (findE_ok h1).2.1
  have c5 := MoveErr_good d n s (by omega) t ht htt
  rw [← he] at c5
  refine Classical.byCases (fun h2 : moveE d n s = 0 => ?_) fun h2 => ?_
  case refine_2 =>
    have c4 := none_good noDir
    rw [moveP, if_neg h2] at c2
    refine good_run [] mixed Tryz.func3 rfl Tryz.ntmps3 (rs := [.tmp 6]) rfl (by decide +kernel) (by kernel_rfl) rfl ?_
    rw [startE_eq 61 _ _ _ rfl rfl]
    set_option maxRecDepth 100000 in simp (maxSteps := 10000000) only [go_sem, Nat.reduceAdd, Nat.reduceSub, Nat.reduceMul, Nat.reduceLT, Nat.reduceLeDiff, Nat.reduceEqDiff, Nat.reduceMod, Nat.reduceDiv, Int.reduceNeg, Int.reduceLE, Int.reduceLT, Int.reduceToNat, Int.reduceEq, Int.reduceNe, ↓reduceIte]
    refine call_of (awake_good) ?_
    set_option maxRecDepth 100000 in simp (maxSteps := 10000000) only [go_sem, Nat.reduceAdd, Nat.reduceSub, Nat.reduceMul, Nat.reduceLT, Nat.reduceLeDiff, Nat.reduceEqDiff, Nat.reduceMod, Nat.reduceDiv, Int.reduceNeg, Int.reduceLE, Int.reduceLT, Int.reduceToNat, Int.reduceEq, Int.reduceNe, ↓reduceIte,  Bool.not_true]
    refine call_of (fd) ?_
    set_option maxRecDepth 100000 in simp (maxSteps := 10000000) only [go_sem, Nat.reduceAdd, Nat.reduceSub, Nat.reduceMul, Nat.reduceLT, Nat.reduceLeDiff, Nat.reduceEqDiff, Nat.reduceMod, Nat.reduceDiv, Int.reduceNeg, Int.reduceLE, Int.reduceLT, Int.reduceToNat, Int.reduceEq, Int.reduceNe, ↓reduceIte,  Bool.not_true]
    refine call_of (fn) ?_
    set_option maxRecDepth 100000 in simp (maxSteps := 10000000) only [go_sem, Nat.reduceAdd, Nat.reduceSub, Nat.reduceMul, Nat.reduceLT, Nat.reduceLeDiff, Nat.reduceEqDiff, Nat.reduceMod, Nat.reduceDiv, Int.reduceNeg, Int.reduceLE, Int.reduceLT, Int.reduceToNat, Int.reduceEq, Int.reduceNe, ↓reduceIte,  Bool.not_true, hs, decide_false]
    refine callD_of (c1) ?_
    set_option maxRecDepth 100000 in simp (maxSteps := 10000000) only [go_sem, Nat.reduceAdd, Nat.reduceSub, Nat.reduceMul, Nat.reduceLT, Nat.reduceLeDiff, Nat.reduceEqDiff, Nat.reduceMod, Nat.reduceDiv, Int.reduceNeg, Int.reduceLE, Int.reduceLT, Int.reduceToNat, Int.reduceEq, Int.reduceNe, ↓reduceIte]
    refine callD_of (c2) ?_
    set_option maxRecDepth 100000 in simp (maxSteps := 10000000) only [go_sem, Nat.reduceAdd, Nat.reduceSub, Nat.reduceMul, Nat.reduceLT, Nat.reduceLeDiff, Nat.reduceEqDiff, Nat.reduceMod, Nat.reduceDiv, Int.reduceNeg, Int.reduceLE, Int.reduceLT, Int.reduceToNat, Int.reduceEq, Int.reduceNe, ↓reduceIte]
    refine ⟨by decide +kernel, ?_⟩
    refine call_of (c3) ?_
    set_option maxRecDepth 100000 in simp (maxSteps := 10000000) only [go_sem, Nat.reduceAdd, Nat.reduceSub, Nat.reduceMul, Nat.reduceLT, Nat.reduceLeDiff, Nat.reduceEqDiff, Nat.reduceMod, Nat.reduceDiv, Int.reduceNeg, Int.reduceLE, Int.reduceLT, Int.reduceToNat, Int.reduceEq, Int.reduceNe, ↓reduceIte,  decide_true, eq_self]
    refine call_of (c5) ?_
    set_option maxRecDepth 100000 in simp (maxSteps := 10000000) only [go_sem, Nat.reduceAdd, Nat.reduceSub, Nat.reduceMul, Nat.reduceLT, Nat.reduceLeDiff, Nat.reduceEqDiff, Nat.reduceMod, Nat.reduceDiv, Int.reduceNeg, Int.reduceLE, Int.reduceLT, Int.reduceToNat, Int.reduceEq, Int.reduceNe, ↓reduceIte,  h2, decide_true, decide_false, not_false_eq_true]
    refine call_of (c4) ?_
    set_option maxRecDepth 100000 in simp (maxSteps := 10000000) only [go_sem, Nat.reduceAdd, Nat.reduceSub, Nat.reduceMul, Nat.reduceLT, Nat.reduceLeDiff, Nat.reduceEqDiff, Nat.reduceMod, Nat.reduceDiv, Int.reduceNeg, Int.reduceLE, Int.reduceLT, Int.reduceToNat, Int.reduceEq, Int.reduceNe, ↓reduceIte,  decide_true, eq_self]
  rw [moveP, if_pos h2, h2] at c2
  rw [h2] at c5
  have c6 := Moved_good d n s (by omega) i hx hi
  have c7 := Same_good (movedD d n s) (movedD d n s) (by
    rw [movedD, hx, Int.toNat_natCast]
    show (insO _ (withoutL d.objects i)).length ≤ _
    have := without_len d.objects hi
    rw [insO_len]; omega)
  refine good_run [] mixed Tryz.func3 rfl Tryz.ntmps3 (rs := [.tmp 6]) rfl (by decide +kernel) (by kernel_rfl) rfl ?_
  rw [startE_eq 61 _ _ _ rfl rfl]
  set_option maxRecDepth 100000 in simp (maxSteps := 10000000) only [go_sem, Nat.reduceAdd, Nat.reduceSub, Nat.reduceMul, Nat.reduceLT, Nat.reduceLeDiff, Nat.reduceEqDiff, Nat.reduceMod, Nat.reduceDiv, Int.reduceNeg, Int.reduceLE, Int.reduceLT, Int.reduceToNat, Int.reduceEq, Int.reduceNe, ↓reduceIte]
  refine call_of (awake_good) ?_
  set_option maxRecDepth 100000 in simp (maxSteps := 10000000) only [go_sem, Nat.reduceAdd, Nat.reduceSub, Nat.reduceMul, Nat.reduceLT, Nat.reduceLeDiff, Nat.reduceEqDiff, Nat.reduceMod, Nat.reduceDiv, Int.reduceNeg, Int.reduceLE, Int.reduceLT, Int.reduceToNat, Int.reduceEq, Int.reduceNe, ↓reduceIte,  Bool.not_true]
  refine call_of (fd) ?_
  set_option maxRecDepth 100000 in simp (maxSteps := 10000000) only [go_sem, Nat.reduceAdd, Nat.reduceSub, Nat.reduceMul, Nat.reduceLT, Nat.reduceLeDiff, Nat.reduceEqDiff, Nat.reduceMod, Nat.reduceDiv, Int.reduceNeg, Int.reduceLE, Int.reduceLT, Int.reduceToNat, Int.reduceEq, Int.reduceNe, ↓reduceIte,  Bool.not_true]
  refine call_of (fn) ?_
  set_option maxRecDepth 100000 in simp (maxSteps := 10000000) only [go_sem, Nat.reduceAdd, Nat.reduceSub, Nat.reduceMul, Nat.reduceLT, Nat.reduceLeDiff, Nat.reduceEqDiff, Nat.reduceMod, Nat.reduceDiv, Int.reduceNeg, Int.reduceLE, Int.reduceLT, Int.reduceToNat, Int.reduceEq, Int.reduceNe, ↓reduceIte,  Bool.not_true, hs, decide_false]
  refine callD_of (c1) ?_
  set_option maxRecDepth 100000 in simp (maxSteps := 10000000) only [go_sem, Nat.reduceAdd, Nat.reduceSub, Nat.reduceMul, Nat.reduceLT, Nat.reduceLeDiff, Nat.reduceEqDiff, Nat.reduceMod, Nat.reduceDiv, Int.reduceNeg, Int.reduceLE, Int.reduceLT, Int.reduceToNat, Int.reduceEq, Int.reduceNe, ↓reduceIte]
  refine callD_of (c2) ?_
  set_option maxRecDepth 100000 in simp (maxSteps := 10000000) only [go_sem, Nat.reduceAdd, Nat.reduceSub, Nat.reduceMul, Nat.reduceLT, Nat.reduceLeDiff, Nat.reduceEqDiff, Nat.reduceMod, Nat.reduceDiv, Int.reduceNeg, Int.reduceLE, Int.reduceLT, Int.reduceToNat, Int.reduceEq, Int.reduceNe, ↓reduceIte]
  refine ⟨by decide +kernel, ?_⟩
  refine call_of (c3) ?_
  set_option maxRecDepth 100000 in simp (maxSteps := 10000000) only [go_sem, Nat.reduceAdd, Nat.reduceSub, Nat.reduceMul, Nat.reduceLT, Nat.reduceLeDiff, Nat.reduceEqDiff, Nat.reduceMod, Nat.reduceDiv, Int.reduceNeg, Int.reduceLE, Int.reduceLT, Int.reduceToNat, Int.reduceEq, Int.reduceNe, ↓reduceIte,  decide_true, eq_self]
  refine call_of (c5) ?_
  set_option maxRecDepth 100000 in simp (maxSteps := 10000000) only [go_sem, Nat.reduceAdd, Nat.reduceSub, Nat.reduceMul, Nat.reduceLT, Nat.reduceLeDiff, Nat.reduceEqDiff, Nat.reduceMod, Nat.reduceDiv, Int.reduceNeg, Int.reduceLE, Int.reduceLT, Int.reduceToNat, Int.reduceEq, Int.reduceNe, ↓reduceIte,  not_true_eq_false, decide_false]
  refine callD_of (c6) ?_
  set_option maxRecDepth 100000 in simp (maxSteps := 10000000) only [go_sem, Nat.reduceAdd, Nat.reduceSub, Nat.reduceMul, Nat.reduceLT, Nat.reduceLeDiff, Nat.reduceEqDiff, Nat.reduceMod, Nat.reduceDiv, Int.reduceNeg, Int.reduceLE, Int.reduceLT, Int.reduceToNat, Int.reduceEq, Int.reduceNe, ↓reduceIte]
  refine callD_of (c7) ?_
  set_option maxRecDepth 100000 in simp (maxSteps := 10000000) only [go_sem, Nat.reduceAdd, Nat.reduceSub, Nat.reduceMul, Nat.reduceLT, Nat.reduceLeDiff, Nat.reduceEqDiff, Nat.reduceMod, Nat.reduceDiv, Int.reduceNeg, Int.reduceLE, Int.reduceLT, Int.reduceToNat, Int.reduceEq, Int.reduceNe, ↓reduceIte]
  decide +kernel
end Go.Proofs.YtppjmigiogddpaaGreat.C08
namespace Go.Proofs.YtppjmigiogddpaaGreat.C08
open Go Go.Proofs Go.Proofs.YtppjmigiogddpaaGreat.Ab
set_option linter.unusedSimpArgs false
set_option linter.unusedVariables false
attribute [local congr] ite_ctx

def copyO (d : Dir) (n m : OName) : Obj := { nth d.objects (placeIx d.objects n).toNat with name := m, seg := 0 }
def dupE (d : Dir) (n m : OName) : Int := if ¬ foundE d n 2 = 0 then foundE d n 2 else if ¬ errName m = 0 then errName m else if ¬ m.type = n.type then 17 else createE d (copyO d n m)
def dupP (d : Dir) (n m : OName) : Dir := if dupE d n m = 0 then createP d (copyO d n m) else noDir

set_option maxHeartbeats 8000000 in
theorem Duplicate_good (d : Dir) (n m : OName) (h : d.objects.length ≤ 1000000) : Ans Tryz.prog 17 [.agg (encDir d), .agg (encOName n), .agg (encOName m)] (.tup [.agg (encDir (dupP d n m)), .int .i64 (dupE d n m)]) := by
  have r1 := permitted_good d n 2 (by decide) h
  refine Classical.byCases (fun h1 : foundE d n 2 = 0 => ?_) fun h1 => ?_
  case refine_2 =>
    have he : dupE d n m = foundE d n 2 := by rw [dupE, if_pos h1]
    rw [dupP, if_neg (by rw [he]; exact h1), he]
    refine Ans.le (r := .tup [.agg [.nils, .int .i64 0], .int .i64 (foundE d n 2)]) ?_ (le_noDir _) rfl
    refine good_run [] mixed Tryz.func17 rfl Tryz.ntmps17 (rs := [.cell 6 24, .tmp 7]) rfl (by decide +kernel) (by kernel_rfl) rfl ?_
    rw [startE_eq 47 _ _ _ rfl rfl]
    set_option maxRecDepth 100000 in simp (maxSteps := 10000000) only [go_sem, Nat.reduceAdd, Nat.reduceSub, Nat.reduceMul, Nat.reduceLT, Nat.reduceLeDiff, Nat.reduceEqDiff, Nat.reduceMod, Nat.reduceDiv, Int.reduceNeg, Int.reduceLE, Int.reduceLT, Int.reduceToNat, Int.reduceEq, Int.reduceNe, ↓reduceIte]
    refine call_of (r1) ?_
    set_option maxRecDepth 100000 in simp (maxSteps := 10000000) only [go_sem, Nat.reduceAdd, Nat.reduceSub, Nat.reduceMul, Nat.reduceLT, Nat.reduceLeDiff, Nat.reduceEqDiff, Nat.reduceMod, Nat.reduceDiv, Int.reduceNeg, Int.reduceLE, Int.reduceLT, Int.reduceToNat, Int.reduceEq, Int.reduceNe, ↓reduceIte,  h1, decide_true, decide_false, not_false_eq_true]
  have r2 := CheckName_good m
  rw [if_pos h1, h1] at r1
  refine Classical.byCases (fun h2 : errName m = 0 => ?_) fun h2 => ?_
  case refine_2 =>
    have he : dupE d n m = errName m := by rw [dupE, if_neg (not_not_intro h1), if_pos h2]
    rw [dupP, if_neg (by rw [he]; exact h2), he]
    refine Ans.le (r := .tup [.agg [.nils, .int .i64 0], .int .i64 (errName m)]) ?_ (le_noDir _) rfl
    refine good_run [] mixed Tryz.func17 rfl Tryz.ntmps17 (rs := [.cell 6 24, .tmp 7]) rfl (by decide +kernel) (by kernel_rfl) rfl ?_
    rw [startE_eq 47 _ _ _ rfl rfl]
    set_option maxRecDepth 100000 in simp (maxSteps := 10000000) only [go_sem, Nat.reduceAdd, Nat.reduceSub, Nat.reduceMul, Nat.reduceLT, Nat.reduceLeDiff, Nat.reduceEqDiff, Nat.reduceMod, Nat.reduceDiv, Int.reduceNeg, Int.reduceLE, Int.reduceLT, Int.reduceToNat, Int.reduceEq, Int.reduceNe, ↓reduceIte]
    refine call_of (r1) ?_
    set_option maxRecDepth 100000 in simp (maxSteps := 10000000) only [go_sem, Nat.reduceAdd, Nat.reduceSub, Nat.reduceMul, Nat.reduceLT, Nat.reduceLeDiff, Nat.reduceEqDiff, Nat.reduceMod, Nat.reduceDiv, Int.reduceNeg, Int.reduceLE, Int.reduceLT, Int.reduceToNat, Int.reduceEq, Int.reduceNe, ↓reduceIte,  decide_true, eq_self]
    refine call_of (r2) ?_
    set_option maxRecDepth 100000 in simp (maxSteps := 10000000) only [go_sem, Nat.reduceAdd, Nat.reduceSub, Nat.reduceMul, Nat.reduceLT, Nat.reduceLeDiff, Nat.reduceEqDiff, Nat.reduceMod, Nat.reduceDiv, Int.reduceNeg, Int.reduceLE, Int.reduceLT, Int.reduceToNat, Int.reduceEq, Int.reduceNe, ↓reduceIte,  h2, decide_true, decide_false, not_false_eq_true]
  rw [h2] at r2
  refine Classical.byCases (fun h3 : m.type = n.type => ?_) fun h3 => ?_
  case refine_2 =>
    have he : dupE d n m = 17 := by rw [dupE, if_neg (not_not_intro h1), if_neg (not_not_intro h2), if_pos h3]
    rw [dupP, if_neg (by rw [he]; decide), he]
    refine Ans.le (r := .tup [.agg [.nils, .int .i64 0], .int .i64 17]) ?_ (le_noDir _) rfl
    refine good_run [] mixed Tryz.func17 rfl Tryz.ntmps17 (rs := [.cell 6 24, .tmp 7]) rfl (by decide +kernel) (by kernel_rfl) rfl ?_
    rw [startE_eq 47 _ _ _ rfl rfl]
    set_option maxRecDepth 100000 in simp (maxSteps := 10000000) only [go_sem, Nat.reduceAdd, Nat.reduceSub, Nat.reduceMul, Nat.reduceLT, Nat.reduceLeDiff, Nat.reduceEqDiff, Nat.reduceMod, Nat.reduceDiv, Int.reduceNeg, Int.reduceLE, Int.reduceLT, Int.reduceToNat, Int.reduceEq, Int.reduceNe, ↓reduceIte]
    refine call_of (r1) ?_
    set_option maxRecDepth 100000 in simp (maxSteps := 10000000) only [go_sem, Nat.reduceAdd, Nat.reduceSub, Nat.reduceMul, Nat.reduceLT, Nat.reduceLeDiff, Nat.reduceEqDiff, Nat.reduceMod, Nat.reduceDiv, Int.reduceNeg, Int.reduceLE, Int.reduceLT, Int.reduceToNat, Int.reduceEq, Int.reduceNe, ↓reduceIte,  decide_true, eq_self]
    refine call_of (r2) ?_
    set_option maxRecDepth 100000 in simp (maxSteps := 10000000) only [go_sem, Nat.reduceAdd, Nat.reduceSub, Nat.reduceMul, Nat.reduceLT, Nat.reduceLeDiff, Nat.reduceEqDiff, Nat.reduceMod, Nat.reduceDiv, Int.reduceNeg, Int.reduceLE, Int.reduceLT, Int.reduceToNat, Int.reduceEq, Int.reduceNe, ↓reduceIte,  eq_false h3, decide_true, decide_false, not_false_eq_true, eq_self]
  have he : dupE d n m = createE d (copyO d n m) := by rw [dupE, if_neg (not_not_intro h1), if_neg (not_not_intro h2), if_neg (not_not_intro h3)]
  have hp : dupP d n m = createP d (copyO d n m) := by
    rw [dupP, he]
    by_cases q : createE d (copyO d n m) = 0
    · rw [if_pos q]
    · rw [if_neg q, createP, if_neg q]
  have hfo := (foundE_ok h1).1
  obtain ⟨i, hx, hi⟩ := findP_ok hfo
  have r3 := Create_good d (copyO d n m) h
  rw [hp, he]
  generalize createP d (copyO d n m) = P at *
  generalize createE d (copyO d n m) = E at *
  unfold copyO at r3
  rw [hx] at r1
  rw [hx, Int.toNat_natCast] at r3
  have hq := map_at encObj hi
  have q1 : (0 : Int) ≤ (i : Int) := by omega
  have q2 : (i : Int) < (d.objects.length : Int) := by omega
  refine good_run [] mixed Tryz.func17 rfl Tryz.ntmps17 (rs := [.cell 6 24, .tmp 7]) rfl (by decide +kernel) (by kernel_rfl) rfl ?_
  rw [startE_eq 47 _ _ _ rfl rfl]
  set_option maxRecDepth 100000 in simp (maxSteps := 10000000) only [go_sem, Nat.reduceAdd, Nat.reduceSub, Nat.reduceMul, Nat.reduceLT, Nat.reduceLeDiff, Nat.reduceEqDiff, Nat.reduceMod, Nat.reduceDiv, Int.reduceNeg, Int.reduceLE, Int.reduceLT, Int.reduceToNat, Int.reduceEq, Int.reduceNe, ↓reduceIte]
  refine call_of (r1) ?_
  set_option maxRecDepth 100000 in simp (maxSteps := 10000000) only [go_sem, Nat.reduceAdd, Nat.reduceSub, Nat.reduceMul, Nat.reduceLT, Nat.reduceLeDiff, Nat.reduceEqDiff, Nat.reduceMod, Nat.reduceDiv, Int.reduceNeg, Int.reduceLE, Int.reduceLT, Int.reduceToNat, Int.reduceEq, Int.reduceNe, ↓reduceIte,  decide_true, eq_self]
  refine call_of (r2) ?_
  set_option maxRecDepth 100000 in simp (maxSteps := 10000000) only [go_sem, Nat.reduceAdd, Nat.reduceSub, Nat.reduceMul, Nat.reduceLT, Nat.reduceLeDiff, Nat.reduceEqDiff, Nat.reduceMod, Nat.reduceDiv, Int.reduceNeg, Int.reduceLE, Int.reduceLT, Int.reduceToNat, Int.reduceEq, Int.reduceNe, ↓reduceIte,  eq_true h3, decide_true, decide_false, not_true_eq_false, eq_self, hq, hi, q1, q2, Option.map_some, Int.toNat_natCast, List.length_map]
  refine call_of (r3) ?_
  set_option maxRecDepth 100000 in simp (maxSteps := 10000000) only [go_sem, Nat.reduceAdd, Nat.reduceSub, Nat.reduceMul, Nat.reduceLT, Nat.reduceLeDiff, Nat.reduceEqDiff, Nat.reduceMod, Nat.reduceDiv, Int.reduceNeg, Int.reduceLE, Int.reduceLT, Int.reduceToNat, Int.reduceEq, Int.reduceNe, ↓reduceIte]
  done

def zeroO : Obj := ⟨⟨⟨#[]⟩, ⟨#[]⟩, 0⟩, ⟨#[]⟩, 0, ⟨#[]⟩, ⟨#[]⟩⟩
def copyE2 (d : Dir) (n m : OName) : Int := if permR n.type.toNat 2 = false then 39 else if ¬ errName m = 0 then errName m else if ¬ n.type = m.type then 17 else createE2 d (copyO d n m)
def copyR (d : Dir) (n m : OName) : Obj := if permR n.type.toNat 2 = false ∨ ¬ errName m = 0 ∨ ¬ n.type = m.type then zeroO else copyO d n m
set_option maxHeartbeats 8000000 in
theorem CopyOf_good (d : Dir) (n m : OName) (h : d.objects.length ≤ 1000000) (t : Nat) (ht : t < 30) (htt : n.type = (t : Int)) (i : Nat) (hx : placeIx d.objects n = (i : Int)) (hi : i < d.objects.length) :
    Ans Tryz.prog 18 [.agg (encDir d), .agg (encOName n), .agg (encOName m)] (.tup [.agg (encObj (copyR d n m)), .int .i64 (copyE2 d n m)]) := by
  have r1 := Permits_good t 2 ht (by decide)
  rw [← htt] at r1
  have r2 := NameErr_good m
  have r3 := Place_good d n h
  have hnt : n.type.toNat = t := by rw [htt, Int.toNat_natCast]
  cases h1 : permR t 2 with
  | false =>
    rw [h1] at r1
    rw [copyR, copyE2, hnt, if_pos (.inl h1), if_pos h1]
    refine good_run [] mixed Tryz.func18 rfl Tryz.ntmps18 (rs := [.cell 6 41, .tmp 7]) rfl (by decide +kernel) (by kernel_rfl) rfl ?_
    rw [startE_eq 41 _ _ _ rfl rfl]
    set_option maxRecDepth 100000 in simp (maxSteps := 10000000) only [go_sem, Nat.reduceAdd, Nat.reduceSub, Nat.reduceMul, Nat.reduceLT, Nat.reduceLeDiff, Nat.reduceEqDiff, Nat.reduceMod, Nat.reduceDiv, Int.reduceNeg, Int.reduceLE, Int.reduceLT, Int.reduceToNat, Int.reduceEq, Int.reduceNe, ↓reduceIte]
    refine call_of (r1) ?_
    set_option maxRecDepth 100000 in simp (maxSteps := 10000000) only [go_sem, Nat.reduceAdd, Nat.reduceSub, Nat.reduceMul, Nat.reduceLT, Nat.reduceLeDiff, Nat.reduceEqDiff, Nat.reduceMod, Nat.reduceDiv, Int.reduceNeg, Int.reduceLE, Int.reduceLT, Int.reduceToNat, Int.reduceEq, Int.reduceNe, ↓reduceIte,  Bool.not_false]
    exact ⟨rfl, rfl, rfl, rfl, rfl, rfl, rfl⟩
  | true =>
  rw [h1] at r1
  refine Classical.byCases (fun h2 : errName m = 0 => ?_) fun h2 => ?_
  case refine_2 =>
    rw [copyR, copyE2, hnt, if_pos (.inr (.inl h2)), if_neg (by rw [h1]; decide), if_pos h2]
    refine good_run [] mixed Tryz.func18 rfl Tryz.ntmps18 (rs := [.cell 6 41, .tmp 7]) rfl (by decide +kernel) (by kernel_rfl) rfl ?_
    rw [startE_eq 41 _ _ _ rfl rfl]
    set_option maxRecDepth 100000 in simp (maxSteps := 10000000) only [go_sem, Nat.reduceAdd, Nat.reduceSub, Nat.reduceMul, Nat.reduceLT, Nat.reduceLeDiff, Nat.reduceEqDiff, Nat.reduceMod, Nat.reduceDiv, Int.reduceNeg, Int.reduceLE, Int.reduceLT, Int.reduceToNat, Int.reduceEq, Int.reduceNe, ↓reduceIte]
    refine call_of (r1) ?_
    set_option maxRecDepth 100000 in simp (maxSteps := 10000000) only [go_sem, Nat.reduceAdd, Nat.reduceSub, Nat.reduceMul, Nat.reduceLT, Nat.reduceLeDiff, Nat.reduceEqDiff, Nat.reduceMod, Nat.reduceDiv, Int.reduceNeg, Int.reduceLE, Int.reduceLT, Int.reduceToNat, Int.reduceEq, Int.reduceNe, ↓reduceIte,  Bool.not_true]
    refine call_of (r2) ?_
    set_option maxRecDepth 100000 in simp (maxSteps := 10000000) only [go_sem, Nat.reduceAdd, Nat.reduceSub, Nat.reduceMul, Nat.reduceLT, Nat.reduceLeDiff, Nat.reduceEqDiff, Nat.reduceMod, Nat.reduceDiv, Int.reduceNeg, Int.reduceLE, Int.reduceLT, Int.reduceToNat, Int.reduceEq, Int.reduceNe, ↓reduceIte,  h2, decide_true, decide_false, not_false_eq_true]
    exact ⟨rfl, rfl, rfl, rfl, rfl, rfl, rfl⟩
  rw [h2] at r2
  refine Classical.byCases (fun h3 : n.type = m.type => ?_) fun h3 => ?_
  case refine_2 =>
    rw [copyR, copyE2, hnt, if_pos (.inr (.inr h3)), if_neg (by rw [h1]; decide), if_neg (not_not_intro h2), if_pos h3]
    refine good_run [] mixed Tryz.func18 rfl Tryz.ntmps18 (rs := [.cell 6 41, .tmp 7]) rfl (by decide +kernel) (by kernel_rfl) rfl ?_
    rw [startE_eq 41 _ _ _ rfl rfl]
    set_option maxRecDepth 100000 in simp (maxSteps := 10000000) only [go_sem, Nat.reduceAdd, Nat.reduceSub, Nat.reduceMul, Nat.reduceLT, Nat.reduceLeDiff, Nat.reduceEqDiff, Nat.reduceMod, Nat.reduceDiv, Int.reduceNeg, Int.reduceLE, Int.reduceLT, Int.reduceToNat, Int.reduceEq, Int.reduceNe, ↓reduceIte]
    refine call_of (r1) ?_
    set_option maxRecDepth 100000 in simp (maxSteps := 10000000) only [go_sem, Nat.reduceAdd, Nat.reduceSub, Nat.reduceMul, Nat.reduceLT, Nat.reduceLeDiff, Nat.reduceEqDiff, Nat.reduceMod, Nat.reduceDiv, Int.reduceNeg, Int.reduceLE, Int.reduceLT, Int.reduceToNat, Int.reduceEq, Int.reduceNe, ↓reduceIte,  Bool.not_true]
    refine call_of (r2) ?_
    set_option maxRecDepth 100000 in simp (maxSteps := 10000000) only [go_sem, Nat.reduceAdd, Nat.reduceSub, Nat.reduceMul, Nat.reduceLT, Nat.reduceLeDiff, Nat.reduceEqDiff, Nat.reduceMod, Nat.reduceDiv, Int.reduceNeg, Int.reduceLE, Int.reduceLT, Int.reduceToNat, Int.reduceEq, Int.reduceNe, ↓reduceIte,  eq_false h3, decide_true, decide_false, not_false_eq_true, not_true_eq_false, eq_self]
    exact ⟨rfl, rfl, rfl, rfl, rfl, rfl, rfl⟩
  rw [copyR, copyE2, hnt, if_neg (by rw [h1]; rintro (q | q | q); cases q; exact q h2; exact q h3), if_neg (by rw [h1]; decide), if_neg (not_not_intro h2), if_neg (not_not_intro h3)]
  have r4 := CreateErr_good d (copyO d n m) h
  generalize createE2 d (copyO d n m) = E at *
  unfold copyO at r4 ⊢
  rw [hx] at r3
  rw [hx, Int.toNat_natCast] at r4 ⊢
  have hq := map_at encObj hi
  have q1 : (0 : Int) ≤ (i : Int) := by omega
  have q2 : (i : Int) < (d.objects.length : Int) := by omega
  refine good_run [] mixed Tryz.func18 rfl Tryz.ntmps18 (rs := [.cell 6 41, .tmp 7]) rfl (by decide +kernel) (by kernel_rfl) rfl ?_
  rw [startE_eq 41 _ _ _ rfl rfl]
  set_option maxRecDepth 100000 in simp (maxSteps := 10000000) only [go_sem, Nat.reduceAdd, Nat.reduceSub, Nat.reduceMul, Nat.reduceLT, Nat.reduceLeDiff, Nat.reduceEqDiff, Nat.reduceMod, Nat.reduceDiv, Int.reduceNeg, Int.reduceLE, Int.reduceLT, Int.reduceToNat, Int.reduceEq, Int.reduceNe, ↓reduceIte]
  refine call_of (r1) ?_
  set_option maxRecDepth 100000 in simp (maxSteps := 10000000) only [go_sem, Nat.reduceAdd, Nat.reduceSub, Nat.reduceMul, Nat.reduceLT, Nat.reduceLeDiff, Nat.reduceEqDiff, Nat.reduceMod, Nat.reduceDiv, Int.reduceNeg, Int.reduceLE, Int.reduceLT, Int.reduceToNat, Int.reduceEq, Int.reduceNe, ↓reduceIte,  Bool.not_true]
  refine call_of (r2) ?_
  set_option maxRecDepth 100000 in simp (maxSteps := 10000000) only [go_sem, Nat.reduceAdd, Nat.reduceSub, Nat.reduceMul, Nat.reduceLT, Nat.reduceLeDiff, Nat.reduceEqDiff, Nat.reduceMod, Nat.reduceDiv, Int.reduceNeg, Int.reduceLE, Int.reduceLT, Int.reduceToNat, Int.reduceEq, Int.reduceNe, ↓reduceIte,  eq_true h3, decide_true, decide_false, not_true_eq_false, eq_self]
  refine callD_of (r3) ?_
  set_option maxRecDepth 100000 in simp (maxSteps := 10000000) only [go_sem, Nat.reduceAdd, Nat.reduceSub, Nat.reduceMul, Nat.reduceLT, Nat.reduceLeDiff, Nat.reduceEqDiff, Nat.reduceMod, Nat.reduceDiv, Int.reduceNeg, Int.reduceLE, Int.reduceLT, Int.reduceToNat, Int.reduceEq, Int.reduceNe, ↓reduceIte,  hq, hi, q1, q2, Option.map_some, Int.toNat_natCast, List.length_map]
  refine ⟨by decide +kernel, ?_⟩
  refine callD_of (r4) ?_
  set_option maxRecDepth 100000 in simp (maxSteps := 10000000) only [go_sem, Nat.reduceAdd, Nat.reduceSub, Nat.reduceMul, Nat.reduceLT, Nat.reduceLeDiff, Nat.reduceEqDiff, Nat.reduceMod, Nat.reduceDiv, Int.reduceNeg, Int.reduceLE, Int.reduceLT, Int.reduceToNat, Int.reduceEq, Int.reduceNe, ↓reduceIte]
  decide +kernel
theorem dupE_eq {d : Dir} {n m : OName} (hd : (dirE d).2 = 0) : dupE d n m = if ¬ findE d n = 0 then findE d n else copyE2 d n m := by
  rw [dupE, copyE2, foundE, createE_eq, if_neg (not_not_intro hd)]
  by_cases h1 : findE d n = 0
  · rw [if_neg (not_not_intro h1), if_neg (not_not_intro h1)]
    by_cases h2 : permR n.type.toNat 2 = false
    · rw [if_pos h2, if_pos h2, if_pos (by decide)]
    · rw [if_neg h2, if_neg h2]
      rw [if_neg (show ¬ ¬ (0 : Int) = 0 by decide)]
      by_cases h4 : errName m = 0
      · rw [if_neg (not_not_intro h4), if_neg (not_not_intro h4)]
        by_cases h3 : m.type = n.type
        · rw [if_neg (not_not_intro h3), if_neg (not_not_intro h3.symm)]
        · rw [if_pos h3, if_pos (fun q => h3 q.symm)]
      · rw [if_pos h4, if_pos h4]
  · rw [if_pos h1, if_pos h1, if_pos h1]
theorem dupE_find {d : Dir} {n m : OName} (h1 : ¬ findE d n = 0) : dupE d n m = findE d n := by
  have : foundE d n 2 = findE d n := by rw [foundE, if_pos h1]
  rw [dupE, this, if_pos h1]
theorem createE_ok {d : Dir} {o : Obj} (hE : createE d o = 0) : (dirE d).2 = 0 ∧ ¬ 0 ≤ placeIx d.objects o.name ∧ d.next ≤ 9999 := by
  unfold createE at hE
  by_cases h1 : (dirE d).2 = 0
  · rw [if_neg (not_not_intro h1)] at hE
    by_cases h2 : errObj o = 0
    · rw [if_neg (not_not_intro h2)] at hE
      by_cases h3 : o.seg = 0
      · rw [if_neg (not_not_intro h3)] at hE
        by_cases h4 : hasLib d.objects o.name.lib = false
        · rw [if_pos h4] at hE; cases hE
        · rw [if_neg h4] at hE
          by_cases h5 : 0 ≤ placeIx d.objects o.name
          · rw [if_pos h5] at hE; cases hE
          · rw [if_neg h5] at hE
            by_cases h6 : d.objects.length = 40 ∨ 9999 < d.next
            · rw [if_pos h6] at hE; cases hE
            · exact ⟨h1, h5, by omega⟩
      · rw [if_pos h3] at hE; cases hE
    · rw [if_pos h2] at hE; exact absurd hE h2
  · rw [if_pos h1] at hE; exact absurd hE h1

set_option maxHeartbeats 8000000 in
theorem LibraryCopies_good (d : Dir) (n m : OName) : Ans Tryz.prog 4 [.agg (encDir d), .agg (encOName n), .agg (encOName m)] (.bool true) := by
  have fd := fewDirectory_good d
  have fn := fewName_good n
  have fm := fewName_good m
  cases hd : fewD d with
  | false =>
    rw [hd] at fd
    refine good_run [] mixed Tryz.func4 rfl Tryz.ntmps4 (rs := [.tmp 6]) rfl (by decide +kernel) (by kernel_rfl) rfl ?_
    rw [startE_eq 72 _ _ _ rfl rfl]
    set_option maxRecDepth 100000 in simp (maxSteps := 10000000) only [go_sem, Nat.reduceAdd, Nat.reduceSub, Nat.reduceMul, Nat.reduceLT, Nat.reduceLeDiff, Nat.reduceEqDiff, Nat.reduceMod, Nat.reduceDiv, Int.reduceNeg, Int.reduceLE, Int.reduceLT, Int.reduceToNat, Int.reduceEq, Int.reduceNe, ↓reduceIte]
    refine call_of (awake_good) ?_
    set_option maxRecDepth 100000 in simp (maxSteps := 10000000) only [go_sem, Nat.reduceAdd, Nat.reduceSub, Nat.reduceMul, Nat.reduceLT, Nat.reduceLeDiff, Nat.reduceEqDiff, Nat.reduceMod, Nat.reduceDiv, Int.reduceNeg, Int.reduceLE, Int.reduceLT, Int.reduceToNat, Int.reduceEq, Int.reduceNe, ↓reduceIte,  Bool.not_true]
    refine call_of (fd) ?_
    set_option maxRecDepth 100000 in simp (maxSteps := 10000000) only [go_sem, Nat.reduceAdd, Nat.reduceSub, Nat.reduceMul, Nat.reduceLT, Nat.reduceLeDiff, Nat.reduceEqDiff, Nat.reduceMod, Nat.reduceDiv, Int.reduceNeg, Int.reduceLE, Int.reduceLT, Int.reduceToNat, Int.reduceEq, Int.reduceNe, ↓reduceIte,  Bool.not_false]
  | true =>
  rw [hd] at fd
  have hl : d.objects.length ≤ 1000000 := fewD_len hd
  cases hn : fewN n with
  | false =>
    rw [hn] at fn
    refine good_run [] mixed Tryz.func4 rfl Tryz.ntmps4 (rs := [.tmp 6]) rfl (by decide +kernel) (by kernel_rfl) rfl ?_
    rw [startE_eq 72 _ _ _ rfl rfl]
    set_option maxRecDepth 100000 in simp (maxSteps := 10000000) only [go_sem, Nat.reduceAdd, Nat.reduceSub, Nat.reduceMul, Nat.reduceLT, Nat.reduceLeDiff, Nat.reduceEqDiff, Nat.reduceMod, Nat.reduceDiv, Int.reduceNeg, Int.reduceLE, Int.reduceLT, Int.reduceToNat, Int.reduceEq, Int.reduceNe, ↓reduceIte]
    refine call_of (awake_good) ?_
    set_option maxRecDepth 100000 in simp (maxSteps := 10000000) only [go_sem, Nat.reduceAdd, Nat.reduceSub, Nat.reduceMul, Nat.reduceLT, Nat.reduceLeDiff, Nat.reduceEqDiff, Nat.reduceMod, Nat.reduceDiv, Int.reduceNeg, Int.reduceLE, Int.reduceLT, Int.reduceToNat, Int.reduceEq, Int.reduceNe, ↓reduceIte,  Bool.not_true]
    refine call_of (fd) ?_
    set_option maxRecDepth 100000 in simp (maxSteps := 10000000) only [go_sem, Nat.reduceAdd, Nat.reduceSub, Nat.reduceMul, Nat.reduceLT, Nat.reduceLeDiff, Nat.reduceEqDiff, Nat.reduceMod, Nat.reduceDiv, Int.reduceNeg, Int.reduceLE, Int.reduceLT, Int.reduceToNat, Int.reduceEq, Int.reduceNe, ↓reduceIte,  Bool.not_true]
    refine call_of (fn) ?_
    set_option maxRecDepth 100000 in simp (maxSteps := 10000000) only [go_sem, Nat.reduceAdd, Nat.reduceSub, Nat.reduceMul, Nat.reduceLT, Nat.reduceLeDiff, Nat.reduceEqDiff, Nat.reduceMod, Nat.reduceDiv, Int.reduceNeg, Int.reduceLE, Int.reduceLT, Int.reduceToNat, Int.reduceEq, Int.reduceNe, ↓reduceIte,  Bool.not_false]
  | true =>
  rw [hn] at fn
  cases hm : fewN m with
  | false =>
    rw [hm] at fm
    refine good_run [] mixed Tryz.func4 rfl Tryz.ntmps4 (rs := [.tmp 6]) rfl (by decide +kernel) (by kernel_rfl) rfl ?_
    rw [startE_eq 72 _ _ _ rfl rfl]
    set_option maxRecDepth 100000 in simp (maxSteps := 10000000) only [go_sem, Nat.reduceAdd, Nat.reduceSub, Nat.reduceMul, Nat.reduceLT, Nat.reduceLeDiff, Nat.reduceEqDiff, Nat.reduceMod, Nat.reduceDiv, Int.reduceNeg, Int.reduceLE, Int.reduceLT, Int.reduceToNat, Int.reduceEq, Int.reduceNe, ↓reduceIte]
    refine call_of (awake_good) ?_
    set_option maxRecDepth 100000 in simp (maxSteps := 10000000) only [go_sem, Nat.reduceAdd, Nat.reduceSub, Nat.reduceMul, Nat.reduceLT, Nat.reduceLeDiff, Nat.reduceEqDiff, Nat.reduceMod, Nat.reduceDiv, Int.reduceNeg, Int.reduceLE, Int.reduceLT, Int.reduceToNat, Int.reduceEq, Int.reduceNe, ↓reduceIte,  Bool.not_true]
    refine call_of (fd) ?_
    set_option maxRecDepth 100000 in simp (maxSteps := 10000000) only [go_sem, Nat.reduceAdd, Nat.reduceSub, Nat.reduceMul, Nat.reduceLT, Nat.reduceLeDiff, Nat.reduceEqDiff, Nat.reduceMod, Nat.reduceDiv, Int.reduceNeg, Int.reduceLE, Int.reduceLT, Int.reduceToNat, Int.reduceEq, Int.reduceNe, ↓reduceIte,  Bool.not_true]
    refine call_of (fn) ?_
    set_option maxRecDepth 100000 in simp (maxSteps := 10000000) only [go_sem, Nat.reduceAdd, Nat.reduceSub, Nat.reduceMul, Nat.reduceLT, Nat.reduceLeDiff, Nat.reduceEqDiff, Nat.reduceMod, Nat.reduceDiv, Int.reduceNeg, Int.reduceLE, Int.reduceLT, Int.reduceToNat, Int.reduceEq, Int.reduceNe, ↓reduceIte,  Bool.not_true]
    refine call_of (fm) ?_
    set_option maxRecDepth 100000 in simp (maxSteps := 10000000) only [go_sem, Nat.reduceAdd, Nat.reduceSub, Nat.reduceMul, Nat.reduceLT, Nat.reduceLeDiff, Nat.reduceEqDiff, Nat.reduceMod, Nat.reduceDiv, Int.reduceNeg, Int.reduceLE, Int.reduceLT, Int.reduceToNat, Int.reduceEq, Int.reduceNe, ↓reduceIte,  Bool.not_false]
  | true =>
  rw [hm] at fm
  have c1 := Own_good d (by omega)
  have c2 := Duplicate_good d n m (by omega)
  have c3 := FindErr_good d n (by omega)
  refine Classical.byCases (fun h1 : findE d n = 0 => ?_) fun h1 => ?_
  case refine_2 =>
    have he := dupE_find (m := m) h1
    have c4 := none_good noDir
    rw [dupP, if_neg (by rw [he]; exact h1), he] at c2
    refine good_run [] mixed Tryz.func4 rfl Tryz.ntmps4 (rs := [.tmp 6]) rfl (by decide +kernel) (by kernel_rfl) rfl ?_
    rw [startE_eq 72 _ _ _ rfl rfl]
    set_option maxRecDepth 100000 in simp (maxSteps := 10000000) only [go_sem, Nat.reduceAdd, Nat.reduceSub, Nat.reduceMul, Nat.reduceLT, Nat.reduceLeDiff, Nat.reduceEqDiff, Nat.reduceMod, Nat.reduceDiv, Int.reduceNeg, Int.reduceLE, Int.reduceLT, Int.reduceToNat, Int.reduceEq, Int.reduceNe, ↓reduceIte]
    refine call_of (awake_good) ?_
    set_option maxRecDepth 100000 in simp (maxSteps := 10000000) only [go_sem, Nat.reduceAdd, Nat.reduceSub, Nat.reduceMul, Nat.reduceLT, Nat.reduceLeDiff, Nat.reduceEqDiff, Nat.reduceMod, Nat.reduceDiv, Int.reduceNeg, Int.reduceLE, Int.reduceLT, Int.reduceToNat, Int.reduceEq, Int.reduceNe, ↓reduceIte,  Bool.not_true]
    refine call_of (fd) ?_
    set_option maxRecDepth 100000 in simp (maxSteps := 10000000) only [go_sem, Nat.reduceAdd, Nat.reduceSub, Nat.reduceMul, Nat.reduceLT, Nat.reduceLeDiff, Nat.reduceEqDiff, Nat.reduceMod, Nat.reduceDiv, Int.reduceNeg, Int.reduceLE, Int.reduceLT, Int.reduceToNat, Int.reduceEq, Int.reduceNe, ↓reduceIte,  Bool.not_true]
    refine call_of (fn) ?_
    set_option maxRecDepth 100000 in simp (maxSteps := 10000000) only [go_sem, Nat.reduceAdd, Nat.reduceSub, Nat.reduceMul, Nat.reduceLT, Nat.reduceLeDiff, Nat.reduceEqDiff, Nat.reduceMod, Nat.reduceDiv, Int.reduceNeg, Int.reduceLE, Int.reduceLT, Int.reduceToNat, Int.reduceEq, Int.reduceNe, ↓reduceIte,  Bool.not_true]
    refine call_of (fm) ?_
    set_option maxRecDepth 100000 in simp (maxSteps := 10000000) only [go_sem, Nat.reduceAdd, Nat.reduceSub, Nat.reduceMul, Nat.reduceLT, Nat.reduceLeDiff, Nat.reduceEqDiff, Nat.reduceMod, Nat.reduceDiv, Int.reduceNeg, Int.reduceLE, Int.reduceLT, Int.reduceToNat, Int.reduceEq, Int.reduceNe, ↓reduceIte,  Bool.not_true]
    refine callD_of (c1) ?_
    set_option maxRecDepth 100000 in simp (maxSteps := 10000000) only [go_sem, Nat.reduceAdd, Nat.reduceSub, Nat.reduceMul, Nat.reduceLT, Nat.reduceLeDiff, Nat.reduceEqDiff, Nat.reduceMod, Nat.reduceDiv, Int.reduceNeg, Int.reduceLE, Int.reduceLT, Int.reduceToNat, Int.reduceEq, Int.reduceNe, ↓reduceIte]
    refine callD_of (c2) ?_
    set_option maxRecDepth 100000 in simp (maxSteps := 10000000) only [go_sem, Nat.reduceAdd, Nat.reduceSub, Nat.reduceMul, Nat.reduceLT, Nat.reduceLeDiff, Nat.reduceEqDiff, Nat.reduceMod, Nat.reduceDiv, Int.reduceNeg, Int.reduceLE, Int.reduceLT, Int.reduceToNat, Int.reduceEq, Int.reduceNe, ↓reduceIte]
    refine ⟨by decide +kernel, ?_⟩
    refine call_of (c3) ?_
    set_option maxRecDepth 100000 in simp (maxSteps := 10000000) only [go_sem, Nat.reduceAdd, Nat.reduceSub, Nat.reduceMul, Nat.reduceLT, Nat.reduceLeDiff, Nat.reduceEqDiff, Nat.reduceMod, Nat.reduceDiv, Int.reduceNeg, Int.reduceLE, Int.reduceLT, Int.reduceToNat, Int.reduceEq, Int.reduceNe, ↓reduceIte,  h1, decide_true, decide_false, not_false_eq_true]
    refine call_of (c4) ?_
    set_option maxRecDepth 100000 in simp (maxSteps := 10000000) only [go_sem, Nat.reduceAdd, Nat.reduceSub, Nat.reduceMul, Nat.reduceLT, Nat.reduceLeDiff, Nat.reduceEqDiff, Nat.reduceMod, Nat.reduceDiv, Int.reduceNeg, Int.reduceLE, Int.reduceLT, Int.reduceToNat, Int.reduceEq, Int.reduceNe, ↓reduceIte,  decide_true, eq_self]
  have hk := findE_ok h1
  have he := dupE_eq (n := n) (m := m) hk.1
  rw [if_neg (not_not_intro h1)] at he
  rw [h1] at c3
  obtain ⟨i, hx, hi⟩ := findP_ok h1
  obtain ⟨t, ht, htt⟩ := errName_type hk.2.1
  have c5 := CopyOf_good d n m (by omega) t ht htt i hx hi
  rw [← he] at c5
  refine Classical.byCases (fun h2 : dupE d n m = 0 => ?_) fun h2 => ?_
  case refine_2 =>
    have c4 := none_good noDir
    rw [dupP, if_neg h2] at c2
    generalize copyR d n m = R at *
    refine good_run [] mixed Tryz.func4 rfl Tryz.ntmps4 (rs := [.tmp 6]) rfl (by decide +kernel) (by kernel_rfl) rfl ?_
    rw [startE_eq 72 _ _ _ rfl rfl]
    set_option maxRecDepth 100000 in simp (maxSteps := 10000000) only [go_sem, Nat.reduceAdd, Nat.reduceSub, Nat.reduceMul, Nat.reduceLT, Nat.reduceLeDiff, Nat.reduceEqDiff, Nat.reduceMod, Nat.reduceDiv, Int.reduceNeg, Int.reduceLE, Int.reduceLT, Int.reduceToNat, Int.reduceEq, Int.reduceNe, ↓reduceIte]
    refine call_of (awake_good) ?_
    set_option maxRecDepth 100000 in simp (maxSteps := 10000000) only [go_sem, Nat.reduceAdd, Nat.reduceSub, Nat.reduceMul, Nat.reduceLT, Nat.reduceLeDiff, Nat.reduceEqDiff, Nat.reduceMod, Nat.reduceDiv, Int.reduceNeg, Int.reduceLE, Int.reduceLT, Int.reduceToNat, Int.reduceEq, Int.reduceNe, ↓reduceIte,  Bool.not_true]
    refine call_of (fd) ?_
    set_option maxRecDepth 100000 in simp (maxSteps := 10000000) only [go_sem, Nat.reduceAdd, Nat.reduceSub, Nat.reduceMul, Nat.reduceLT, Nat.reduceLeDiff, Nat.reduceEqDiff, Nat.reduceMod, Nat.reduceDiv, Int.reduceNeg, Int.reduceLE, Int.reduceLT, Int.reduceToNat, Int.reduceEq, Int.reduceNe, ↓reduceIte,  Bool.not_true]
    refine call_of (fn) ?_
    set_option maxRecDepth 100000 in simp (maxSteps := 10000000) only [go_sem, Nat.reduceAdd, Nat.reduceSub, Nat.reduceMul, Nat.reduceLT, Nat.reduceLeDiff, Nat.reduceEqDiff, Nat.reduceMod, Nat.reduceDiv, Int.reduceNeg, Int.reduceLE, Int.reduceLT, Int.reduceToNat, Int.reduceEq, Int.reduceNe, ↓reduceIte,  Bool.not_true]
    refine call_of (fm) ?_
    set_option maxRecDepth 100000 in simp (maxSteps := 10000000) only [go_sem, Nat.reduceAdd, Nat.reduceSub, Nat.reduceMul, Nat.reduceLT, Nat.reduceLeDiff, Nat.reduceEqDiff, Nat.reduceMod, Nat.reduceDiv, Int.reduceNeg, Int.reduceLE, Int.reduceLT, Int.reduceToNat, Int.reduceEq, Int.reduceNe, ↓reduceIte,  Bool.not_true]
    refine callD_of (c1) ?_
    set_option maxRecDepth 100000 in simp (maxSteps := 10000000) only [go_sem, Nat.reduceAdd, Nat.reduceSub, Nat.reduceMul, Nat.reduceLT, Nat.reduceLeDiff, Nat.reduceEqDiff, Nat.reduceMod, Nat.reduceDiv, Int.reduceNeg, Int.reduceLE, Int.reduceLT, Int.reduceToNat, Int.reduceEq, Int.reduceNe, ↓reduceIte]
    refine callD_of (c2) ?_
    set_option maxRecDepth 100000 in simp (maxSteps := 10000000) only [go_sem, Nat.reduceAdd, Nat.reduceSub, Nat.reduceMul, Nat.reduceLT, Nat.reduceLeDiff, Nat.reduceEqDiff, Nat.reduceMod, Nat.reduceDiv, Int.reduceNeg, Int.reduceLE, Int.reduceLT, Int.reduceToNat, Int.reduceEq, Int.reduceNe, ↓reduceIte]
    refine ⟨by decide +kernel, ?_⟩
    refine call_of (c3) ?_
    set_option maxRecDepth 100000 in simp (maxSteps := 10000000) only [go_sem, Nat.reduceAdd, Nat.reduceSub, Nat.reduceMul, Nat.reduceLT, Nat.reduceLeDiff, Nat.reduceEqDiff, Nat.reduceMod, Nat.reduceDiv, Int.reduceNeg, Int.reduceLE, Int.reduceLT, Int.reduceToNat, Int.reduceEq, Int.reduceNe, ↓reduceIte,  decide_true, eq_self]
    refine call_of (c5) ?_
    set_option maxRecDepth 100000 in simp (maxSteps := 10000000) only [go_sem, Nat.reduceAdd, Nat.reduceSub, Nat.reduceMul, Nat.reduceLT, Nat.reduceLeDiff, Nat.reduceEqDiff, Nat.reduceMod, Nat.reduceDiv, Int.reduceNeg, Int.reduceLE, Int.reduceLT, Int.reduceToNat, Int.reduceEq, Int.reduceNe, ↓reduceIte,  h2, decide_true, decide_false, not_false_eq_true]
    refine call_of (c4) ?_
    set_option maxRecDepth 100000 in simp (maxSteps := 10000000) only [go_sem, Nat.reduceAdd, Nat.reduceSub, Nat.reduceMul, Nat.reduceLT, Nat.reduceLeDiff, Nat.reduceEqDiff, Nat.reduceMod, Nat.reduceDiv, Int.reduceNeg, Int.reduceLE, Int.reduceLT, Int.reduceToNat, Int.reduceEq, Int.reduceNe, ↓reduceIte,  decide_true, eq_self]
  have hcr : createE d (copyO d n m) = 0 ∧ copyR d n m = copyO d n m := by
    have q := h2
    rw [he, copyE2] at q
    have q1 : ¬ permR n.type.toNat 2 = false := fun z => by rw [if_pos z] at q; cases q
    rw [if_neg q1] at q
    have q2 : errName m = 0 := Classical.byContradiction fun z => by rw [if_pos z] at q; exact z q
    rw [if_neg (not_not_intro q2)] at q
    have q3 : n.type = m.type := Classical.byContradiction fun z => by rw [if_pos z] at q; cases q
    rw [if_neg (not_not_intro q3)] at q
    exact ⟨by rw [createE_eq, if_neg (not_not_intro hk.1)]; exact q, by rw [copyR, if_neg]; rintro (z | z | z); exact q1 z; exact z q2; exact z q3⟩
  have hok := createE_ok hcr.1
  have hcp : createP d (copyO d n m) = ⟨insO { copyO d n m with seg := d.next } d.objects, d.next + 1⟩ := by
    rw [createP, if_pos hcr.1, sortO_ins (o := { copyO d n m with seg := d.next }) (dir_sorted hk.1) (place_no hok.2.1)]
  rw [dupP, if_pos h2, h2, hcp] at c2
  rw [h2, hcr.2] at c5
  have c6 := Created_good d (copyO d n m) (by omega) ⟨(dirE_ok hk.1).2.1, hok.2.2⟩
  have hlen := (dirE_ok hk.1).1
  have c7 := Same_good ⟨insO { copyO d n m with seg := d.next } d.objects, d.next + 1⟩ ⟨insO { copyO d n m with seg := d.next } d.objects, d.next + 1⟩ (by
    show (insO _ d.objects).length ≤ _
    rw [insO_len]; omega)
  generalize insO { copyO d n m with seg := d.next } d.objects = I at *
  generalize copyO d n m = R at *
  refine good_run [] mixed Tryz.func4 rfl Tryz.ntmps4 (rs := [.tmp 6]) rfl (by decide +kernel) (by kernel_rfl) rfl ?_
  rw [startE_eq 72 _ _ _ rfl rfl]
  set_option maxRecDepth 100000 in simp (maxSteps := 10000000) only [go_sem, Nat.reduceAdd, Nat.reduceSub, Nat.reduceMul, Nat.reduceLT, Nat.reduceLeDiff, Nat.reduceEqDiff, Nat.reduceMod, Nat.reduceDiv, Int.reduceNeg, Int.reduceLE, Int.reduceLT, Int.reduceToNat, Int.reduceEq, Int.reduceNe, ↓reduceIte]
  refine call_of (awake_good) ?_
  set_option maxRecDepth 100000 in simp (maxSteps := 10000000) only [go_sem, Nat.reduceAdd, Nat.reduceSub, Nat.reduceMul, Nat.reduceLT, Nat.reduceLeDiff, Nat.reduceEqDiff, Nat.reduceMod, Nat.reduceDiv, Int.reduceNeg, Int.reduceLE, Int.reduceLT, Int.reduceToNat, Int.reduceEq, Int.reduceNe, ↓reduceIte,  Bool.not_true]
  refine call_of (fd) ?_
  set_option maxRecDepth 100000 in simp (maxSteps := 10000000) only [go_sem, Nat.reduceAdd, Nat.reduceSub, Nat.reduceMul, Nat.reduceLT, Nat.reduceLeDiff, Nat.reduceEqDiff, Nat.reduceMod, Nat.reduceDiv, Int.reduceNeg, Int.reduceLE, Int.reduceLT, Int.reduceToNat, Int.reduceEq, Int.reduceNe, ↓reduceIte,  Bool.not_true]
  refine call_of (fn) ?_
  set_option maxRecDepth 100000 in simp (maxSteps := 10000000) only [go_sem, Nat.reduceAdd, Nat.reduceSub, Nat.reduceMul, Nat.reduceLT, Nat.reduceLeDiff, Nat.reduceEqDiff, Nat.reduceMod, Nat.reduceDiv, Int.reduceNeg, Int.reduceLE, Int.reduceLT, Int.reduceToNat, Int.reduceEq, Int.reduceNe, ↓reduceIte,  Bool.not_true]
  refine call_of (fm) ?_
  set_option maxRecDepth 100000 in simp (maxSteps := 10000000) only [go_sem, Nat.reduceAdd, Nat.reduceSub, Nat.reduceMul, Nat.reduceLT, Nat.reduceLeDiff, Nat.reduceEqDiff, Nat.reduceMod, Nat.reduceDiv, Int.reduceNeg, Int.reduceLE, Int.reduceLT, Int.reduceToNat, Int.reduceEq, Int.reduceNe, ↓reduceIte,  Bool.not_true]
  refine callD_of (c1) ?_
  set_option maxRecDepth 100000 in simp (maxSteps := 10000000) only [go_sem, Nat.reduceAdd, Nat.reduceSub, Nat.reduceMul, Nat.reduceLT, Nat.reduceLeDiff, Nat.reduceEqDiff, Nat.reduceMod, Nat.reduceDiv, Int.reduceNeg, Int.reduceLE, Int.reduceLT, Int.reduceToNat, Int.reduceEq, Int.reduceNe, ↓reduceIte]
  refine callD_of (c2) ?_
  set_option maxRecDepth 100000 in simp (maxSteps := 10000000) only [go_sem, Nat.reduceAdd, Nat.reduceSub, Nat.reduceMul, Nat.reduceLT, Nat.reduceLeDiff, Nat.reduceEqDiff, Nat.reduceMod, Nat.reduceDiv, Int.reduceNeg, Int.reduceLE, Int.reduceLT, Int.reduceToNat, Int.reduceEq, Int.reduceNe, ↓reduceIte]
  refine ⟨by decide +kernel, ?_⟩
  refine call_of (c3) ?_
  set_option maxRecDepth 100000 in simp (maxSteps := 10000000) only [go_sem, Nat.reduceAdd, Nat.reduceSub, Nat.reduceMul, Nat.reduceLT, Nat.reduceLeDiff, Nat.reduceEqDiff, Nat.reduceMod, Nat.reduceDiv, Int.reduceNeg, Int.reduceLE, Int.reduceLT, Int.reduceToNat, Int.reduceEq, Int.reduceNe, ↓reduceIte,  decide_true, eq_self]
  refine call_of (c5) ?_
  set_option maxRecDepth 100000 in simp (maxSteps := 10000000) only [go_sem, Nat.reduceAdd, Nat.reduceSub, Nat.reduceMul, Nat.reduceLT, Nat.reduceLeDiff, Nat.reduceEqDiff, Nat.reduceMod, Nat.reduceDiv, Int.reduceNeg, Int.reduceLE, Int.reduceLT, Int.reduceToNat, Int.reduceEq, Int.reduceNe, ↓reduceIte,  not_true_eq_false, decide_false]
  refine callD_of (c6) ?_
  set_option maxRecDepth 100000 in simp (maxSteps := 10000000) only [go_sem, Nat.reduceAdd, Nat.reduceSub, Nat.reduceMul, Nat.reduceLT, Nat.reduceLeDiff, Nat.reduceEqDiff, Nat.reduceMod, Nat.reduceDiv, Int.reduceNeg, Int.reduceLE, Int.reduceLT, Int.reduceToNat, Int.reduceEq, Int.reduceNe, ↓reduceIte]
  refine callD_of (c7) ?_
  set_option maxRecDepth 100000 in simp (maxSteps := 10000000) only [go_sem, Nat.reduceAdd, Nat.reduceSub, Nat.reduceMul, Nat.reduceLT, Nat.reduceLeDiff, Nat.reduceEqDiff, Nat.reduceMod, Nat.reduceDiv, Int.reduceNeg, Int.reduceLE, Int.reduceLT, Int.reduceToNat, Int.reduceEq, Int.reduceNe, ↓reduceIte]
  decide +kernel
end Go.Proofs.YtppjmigiogddpaaGreat.C08
namespace Go.Proofs.YtppjmigiogddpaaGreat.C08
open Go Go.Proofs Go.Proofs.YtppjmigiogddpaaGreat.Ab
set_option linter.unusedSimpArgs false
set_option linter.unusedVariables false
attribute [local congr] ite_ctx

set_option maxHeartbeats 4000000 in
theorem found_good (d : Dir) (n : OName) (k : Nat) (hk : k < 9) (h : d.objects.length ≤ 1000000) : Ans Tryz.prog 98 [.agg (encDir d), .agg (encOName n), .int .i64 (k : Int)] (.tup [.int .i64 (findP d n), .int .i64 (foundE d n k)]) := by
  have r1 := Find_good d n h
  refine Classical.byCases (fun h1 : findE d n = 0 => ?_) fun h1 => ?_
  · obtain ⟨t, ht, htt⟩ := errName_type (findE_ok h1).2.1
    have hp := permits_good t k ht hk
    refine Classical.byCases (fun h2 : permR t k = true => ?_) fun h2 => ?_
    · have he : foundE d n k = 0 := by rw [foundE, if_neg (not_not_intro h1), htt, Int.toNat_natCast, if_neg (by rw [h2]; decide)]
      rw [h1] at r1
      rw [h2] at hp
      rw [he]
      refine good_run [] mixed Tryz.func98 rfl Tryz.ntmps98 (rs := [.tmp 6, .tmp 7]) rfl (by decide +kernel) (by kernel_rfl) rfl ?_
      rw [startE_eq 27 _ _ _ rfl rfl]
      set_option maxRecDepth 100000 in simp (maxSteps := 10000000) only [go_sem, Nat.reduceAdd, Nat.reduceSub, Nat.reduceMul, Nat.reduceLT, Nat.reduceLeDiff, Nat.reduceEqDiff, Nat.reduceMod, Nat.reduceDiv, Int.reduceNeg, Int.reduceLE, Int.reduceLT, Int.reduceToNat, Int.reduceEq, Int.reduceNe, ↓reduceIte]
      refine call_of (r1) ?_
      set_option maxRecDepth 100000 in simp (maxSteps := 10000000) only [go_sem, Nat.reduceAdd, Nat.reduceSub, Nat.reduceMul, Nat.reduceLT, Nat.reduceLeDiff, Nat.reduceEqDiff, Nat.reduceMod, Nat.reduceDiv, Int.reduceNeg, Int.reduceLE, Int.reduceLT, Int.reduceToNat, Int.reduceEq, Int.reduceNe, ↓reduceIte]
      set_option maxRecDepth 100000 in simp (maxSteps := 10000000) only [go_sem, Nat.reduceAdd, Nat.reduceSub, Nat.reduceMul, Nat.reduceLT, Nat.reduceLeDiff, Nat.reduceEqDiff, Nat.reduceMod, Nat.reduceDiv, Int.reduceNeg, Int.reduceLE, Int.reduceLT, Int.reduceToNat, Int.reduceEq, Int.reduceNe, ↓reduceIte,  htt]
      refine call_of (hp) ?_
      set_option maxRecDepth 100000 in simp (maxSteps := 10000000) only [go_sem, Nat.reduceAdd, Nat.reduceSub, Nat.reduceMul, Nat.reduceLT, Nat.reduceLeDiff, Nat.reduceEqDiff, Nat.reduceMod, Nat.reduceDiv, Int.reduceNeg, Int.reduceLE, Int.reduceLT, Int.reduceToNat, Int.reduceEq, Int.reduceNe, ↓reduceIte,  Bool.not_true]
    · have h2' := Bool.eq_false_iff.2 h2
      have he : foundE d n k = 39 := by rw [foundE, if_neg (not_not_intro h1), htt, Int.toNat_natCast, if_pos h2']
      rw [h1] at r1
      rw [h2'] at hp
      rw [he]
      refine good_run [] mixed Tryz.func98 rfl Tryz.ntmps98 (rs := [.tmp 6, .tmp 7]) rfl (by decide +kernel) (by kernel_rfl) rfl ?_
      rw [startE_eq 27 _ _ _ rfl rfl]
      set_option maxRecDepth 100000 in simp (maxSteps := 10000000) only [go_sem, Nat.reduceAdd, Nat.reduceSub, Nat.reduceMul, Nat.reduceLT, Nat.reduceLeDiff, Nat.reduceEqDiff, Nat.reduceMod, Nat.reduceDiv, Int.reduceNeg, Int.reduceLE, Int.reduceLT, Int.reduceToNat, Int.reduceEq, Int.reduceNe, ↓reduceIte]
      refine call_of (r1) ?_
      set_option maxRecDepth 100000 in simp (maxSteps := 10000000) only [go_sem, Nat.reduceAdd, Nat.reduceSub, Nat.reduceMul, Nat.reduceLT, Nat.reduceLeDiff, Nat.reduceEqDiff, Nat.reduceMod, Nat.reduceDiv, Int.reduceNeg, Int.reduceLE, Int.reduceLT, Int.reduceToNat, Int.reduceEq, Int.reduceNe, ↓reduceIte]
      set_option maxRecDepth 100000 in simp (maxSteps := 10000000) only [go_sem, Nat.reduceAdd, Nat.reduceSub, Nat.reduceMul, Nat.reduceLT, Nat.reduceLeDiff, Nat.reduceEqDiff, Nat.reduceMod, Nat.reduceDiv, Int.reduceNeg, Int.reduceLE, Int.reduceLT, Int.reduceToNat, Int.reduceEq, Int.reduceNe, ↓reduceIte,  htt]
      refine call_of (hp) ?_
      set_option maxRecDepth 100000 in simp (maxSteps := 10000000) only [go_sem, Nat.reduceAdd, Nat.reduceSub, Nat.reduceMul, Nat.reduceLT, Nat.reduceLeDiff, Nat.reduceEqDiff, Nat.reduceMod, Nat.reduceDiv, Int.reduceNeg, Int.reduceLE, Int.reduceLT, Int.reduceToNat, Int.reduceEq, Int.reduceNe, ↓reduceIte,  Bool.not_false]
  · have he : foundE d n k = findE d n := by rw [foundE, if_pos h1]
    rw [he]
    refine good_run [] mixed Tryz.func98 rfl Tryz.ntmps98 (rs := [.tmp 6, .tmp 7]) rfl (by decide +kernel) (by kernel_rfl) rfl ?_
    rw [startE_eq 27 _ _ _ rfl rfl]
    set_option maxRecDepth 100000 in simp (maxSteps := 10000000) only [go_sem, Nat.reduceAdd, Nat.reduceSub, Nat.reduceMul, Nat.reduceLT, Nat.reduceLeDiff, Nat.reduceEqDiff, Nat.reduceMod, Nat.reduceDiv, Int.reduceNeg, Int.reduceLE, Int.reduceLT, Int.reduceToNat, Int.reduceEq, Int.reduceNe, ↓reduceIte]
    refine call_of (r1) ?_
    set_option maxRecDepth 100000 in simp (maxSteps := 10000000) only [go_sem, Nat.reduceAdd, Nat.reduceSub, Nat.reduceMul, Nat.reduceLT, Nat.reduceLeDiff, Nat.reduceEqDiff, Nat.reduceMod, Nat.reduceDiv, Int.reduceNeg, Int.reduceLE, Int.reduceLT, Int.reduceToNat, Int.reduceEq, Int.reduceNe, ↓reduceIte,  h1, decide_false]

theorem createE2_ok {d : Dir} {o : Obj} (h : createE2 d o = 0) : errObj o = 0 ∧ o.seg = 0 ∧ hasLib d.objects o.name.lib = true ∧ ¬ 0 ≤ placeIx d.objects o.name ∧ ¬ (d.objects.length = 40 ∨ 9999 < d.next) := by
  rw [createE2] at h
  by_cases a1 : errObj o = 0
  case neg => rw [if_pos a1] at h; exact absurd h a1
  rw [if_neg (not_not_intro a1)] at h
  by_cases a2 : o.seg = 0
  case neg => rw [if_pos a2] at h; cases h
  rw [if_neg (not_not_intro a2)] at h
  by_cases a3 : hasLib d.objects o.name.lib = false
  · rw [if_pos a3] at h; cases h
  rw [if_neg a3] at h
  by_cases a4 : 0 ≤ placeIx d.objects o.name
  · rw [if_pos a4] at h; cases h
  rw [if_neg a4] at h
  by_cases a5 : d.objects.length = 40 ∨ 9999 < d.next
  · rw [if_pos a5] at h; cases h
  exact ⟨a1, a2, by simpa using a3, a4, a5⟩

theorem findP_ok3 {d : Dir} {n : OName} (h : findE d n = 0) : ∃ i : Nat, placeIx d.objects n = (i : Int) ∧ i < d.objects.length ∧ findP d n = (i : Int) := by
  have hk := findE_ok h
  exact ⟨(placeIx d.objects n).toNat, by omega, by omega, by rw [findP, if_pos h]; omega⟩
theorem findE_dir {d : Dir} {n : OName} (h : findE d n = 0) : (dirE d).2 = 0 := (findE_ok h).1
end Go.Proofs.YtppjmigiogddpaaGreat.C08
namespace Go.Proofs.YtppjmigiogddpaaGreat.C08
open Go Go.Proofs Go.Proofs.YtppjmigiogddpaaGreat.Ab
set_option linter.unusedSimpArgs false
set_option linter.unusedVariables false

def libO (n : OName) (s : ByteArray) (o : Obj) : Obj := if n.type = 0 ∧ o.name.lib = n.name then { o with name := { o.name with lib := s } } else o
def renM (n : OName) (s : ByteArray) (o : Obj) : Obj := if o.name = n then { o with name := { o.name with name := s } } else libO n s o
def toN (n : OName) (s : ByteArray) : OName := ⟨n.lib, s, n.type⟩
/-- The row at the k-th round. -/
def renL (n : OName) (s : ByteArray) (l : List Obj) (k : Nat) : List Obj := (l.take k).map (libO n s) ++ l.drop k
theorem renL_len (n : OName) (s : ByteArray) (l : List Obj) (k : Nat) : (renL n s l k).length = l.length := by
  rw [renL, List.length_append, List.length_map, List.length_take, List.length_drop]; omega
theorem renL_zero (n : OName) (s : ByteArray) (l : List Obj) : renL n s l 0 = l := by rw [renL]; simp
theorem renL_all (n : OName) (s : ByteArray) (l : List Obj) : renL n s l l.length = l.map (libO n s) := by rw [renL]; simp
theorem renL_get {n : OName} {s : ByteArray} {l : List Obj} {k : Nat} (h : k < l.length) : (renL n s l k)[k]? = some (nth l k) := by
  have hk : ((l.take k).map (libO n s)).length = k := by rw [List.length_map, List.length_take]; omega
  rw [renL, List.getElem?_append_right (by omega), hk, Nat.sub_self, List.getElem?_drop, Nat.add_zero, List.getElem?_eq_getElem h, nth_eq h]
theorem renL_set {n : OName} {s : ByteArray} {l : List Obj} {k : Nat} (h : k < l.length) : (renL n s l k).set k (libO n s (nth l k)) = renL n s l (k + 1) := by
  have hk : ((l.take k).map (libO n s)).length = k := by rw [List.length_map, List.length_take]; omega
  rw [renL, renL, List.set_append_right _ _ (by omega), hk, Nat.sub_self, List.take_succ_eq_append_getElem h, List.map_append, List.drop_eq_getElem_cons h, List.set_cons_zero, nth_eq h]
  simp
theorem renL_same {n : OName} {s : ByteArray} {l : List Obj} {k : Nat} (h : k < l.length) (hs : libO n s (nth l k) = nth l k) : renL n s l k = renL n s l (k + 1) := by
  rw [← renL_set h, hs]
  refine List.ext_getElem? fun j => ?_
  rw [List.getElem?_set]
  split
  · rename_i e; subst e
    rw [renL_get h, if_pos (by rw [renL_len]; exact h)]
  · rfl

theorem sorted_inj {l : List Obj} (h : Sorted l) {i j : Nat} (hi : i < l.length) (hj : j < l.length) (hn : (nth l i).name = (nth l j).name) : i = j := by
  have key : ∀ i j, i < j → i < l.length → (hj : j < l.length) → ¬ (nth l i).name = (nth l j).name := fun i j hij hi hj e => by
    have := List.pairwise_iff_getElem.1 h i j hi hj hij
    rw [← nth_eq hi, ← nth_eq hj] at this
    rw [e, nLt_irrefl] at this; cases this
  rcases Nat.lt_trichotomy i j with q | q | q
  · exact absurd hn (key i j q hi hj)
  · exact q
  · exact absurd hn.symm (key j i q hj hi)

theorem errName_sys {n : OName} (h : errName n = 0) (ht : n.type = 0) : n.lib = qsys ∧ ¬ n.name = qsys := by
  have hc : clash n = false := by
    rw [errName] at h
    split at h
    · cases h
    split at h
    · cases h
    split at h
    · cases h
    split at h
    · cases h
    · rename_i q; simpa using q
  rw [clash, ht] at hc
  have : isSys 0 = true := by decide
  rw [this] at hc
  simp at hc
  exact ⟨Classical.not_not.1 fun q => by simp_all, by simp_all⟩

/-- What the program makes of the row is what the law says. -/
theorem ren_row {d : Dir} {n : OName} {s : ByteArray} {i : Nat} (hd : (dirE d).2 = 0) (hn : errName n = 0) (hx : placeIx d.objects n = (i : Int)) (hi : i < d.objects.length) :
    (d.objects.set i { nth d.objects i with name := toN n s }).map (libO n s) = d.objects.map (renM n s) := by
  have hname := place_name hx
  refine List.ext_getElem (by simp) fun j h1 h2 => ?_
  have hj : j < d.objects.length := by simpa using h2
  rw [List.getElem_map, List.getElem_map, List.getElem_set]
  have hnj : d.objects[j] = nth d.objects j := (nth_eq hj).symm
  split
  · rename_i e
    subst e
    rw [hnj, renM, if_pos hname, libO, if_neg]
    · rw [hname]; rfl
    · rintro ⟨q1, q2⟩
      have := errName_sys hn q1
      simp only [toN] at q2
      exact this.2 (by rw [← q2]; exact this.1)
  · rename_i e
    rw [hnj, renM, if_neg]
    intro q
    exact e (sorted_inj (dir_sorted hd) hi hj (by rw [hname, q]))

theorem ren_names {d : Dir} {n : OName} {s : ByteArray} (hd : (dirE d).2 = 0) (hn : errName n = 0) (hm : errName (toN n s) = 0) (hp : ¬ 0 ≤ placeIx d.objects (toN n s)) :
    (d.objects.map (renM n s)).Pairwise fun a b => ¬ a.name = b.name := by
  have hno := place_no hp
  rw [List.pairwise_map]
  have hs := dir_sorted hd
  have hlib : ∀ a ∈ d.objects, n.type = 0 → ¬ a.name.lib = s := fun a ha ht e => by
    obtain ⟨j, hj, rfl⟩ := List.getElem_of_mem ha
    have h1 := ((objE_ok hj).1 (dirE_objs hd hj)).lib
    rw [nth_eq hj, e, hasLib, Bool.or_eq_true, decide_eq_true_eq, decide_eq_true_eq] at h1
    have h2 := errName_sys hm ht
    have h3 := errName_sys hn ht
    rcases h1 with h1 | h1
    · exact h2.2 h1
    · refine hp ?_
      rw [toN, h3.1, ht]; exact h1
  refine List.Pairwise.imp_of_mem (fun {a b} ha hb hab => ?_) hs
  have hne : ¬ a.name = b.name := fun e => by rw [e, nLt_irrefl] at hab; cases hab
  intro e
  by_cases h1 : a.name = n
  · rw [renM, if_pos h1] at e
    have e1 : b.name ≠ n := fun q => hne (by rw [h1, q])
    rw [renM, if_neg e1, libO] at e
    split at e
    · rename_i q
      have := errName_sys hm q.1
      have h3 := errName_sys hn q.1
      have e2 : a.name.lib = s := congrArg OName.lib e
      rw [h1, h3.1] at e2
      exact this.2 e2.symm
    · exact hno b hb (by rw [← e, h1]; rfl)
  · rw [renM, if_neg h1] at e
    by_cases h2 : b.name = n
    · rw [renM, if_pos h2, libO] at e
      split at e
      · rename_i q
        have := errName_sys hm q.1
        have h3 := errName_sys hn q.1
        have e2 : s = b.name.lib := congrArg OName.lib e
        rw [h2, h3.1] at e2
        exact this.2 e2
      · exact hno a ha (by rw [e, h2]; rfl)
    · rw [renM, if_neg h2, libO, libO] at e
      split at e
      · rename_i q
        split at e
        · rename_i q2
          have e' : (⟨s, a.name.name, a.name.type⟩ : OName) = ⟨s, b.name.name, b.name.type⟩ := e
          have e1 : a.name.name = b.name.name := (OName.mk.inj e').2.1
          have e2 : a.name.type = b.name.type := (OName.mk.inj e').2.2
          have e3 : a.name.lib = b.name.lib := by rw [q.2, q2.2]
          exact hne (show (⟨a.name.lib, a.name.name, a.name.type⟩ : OName) = ⟨b.name.lib, b.name.name, b.name.type⟩ by rw [e1, e2, e3])
        · exact hlib b hb q.1 (congrArg OName.lib e).symm
      · split at e
        · rename_i q2
          exact hlib a ha q2.1 (congrArg OName.lib e)
        · exact hne e

/-- What With makes of all. -/
def insAll (l : List Obj) : List Obj := l.foldl (fun acc o => insO o acc) []
theorem insF_len (l : List Obj) : ∀ acc : List Obj, (l.foldl (fun acc o => insO o acc) acc).length = acc.length + l.length := by
  induction l with
  | nil => intro acc; rfl
  | cons o l ih => intro acc; rw [List.foldl_cons, ih, insO_len, List.length_cons]; omega
theorem insAll_len (l : List Obj) : (insAll l).length = l.length := by rw [insAll, insF_len]; simp
theorem insAll_snoc (l : List Obj) (o : Obj) : insAll (l ++ [o]) = insO o (insAll l) := by rw [insAll, List.foldl_append]; rfl
theorem insF_sort : ∀ (l acc : List Obj), Sorted acc → (∀ a ∈ acc, ∀ o ∈ l, ¬ a.name = o.name) → (l.Pairwise fun a b => ¬ a.name = b.name) → Sorted (l.foldl (fun acc o => insO o acc) acc) ∧ (acc ++ l).Perm (l.foldl (fun acc o => insO o acc) acc)
  | [], acc, h, _, _ => ⟨h, by rw [List.append_nil]; exact .refl _⟩
  | o :: l, acc, h, hd, hp => by
    obtain ⟨h1, h2⟩ := List.pairwise_cons.1 hp
    have := insF_sort l (insO o acc) (insO_sorted h fun a ha => hd a ha o (List.mem_cons_self ..)) (fun a ha x hx => by
      rcases insO_mem.1 ha with rfl | ha
      · exact h1 x hx
      · exact hd a ha x (List.mem_cons_of_mem _ hx)) h2
    refine ⟨this.1, ?_⟩
    rw [List.foldl_cons]
    exact (List.perm_middle.trans (((insO_perm o acc).symm.append_right l))).trans this.2
theorem insAll_sort {l : List Obj} (h : l.Pairwise fun a b => ¬ a.name = b.name) : insAll l = sortO l := by
  have := insF_sort l [] List.Pairwise.nil (fun a ha => by cases ha) h
  exact (sortO_eq this.2 this.1).symm
end Go.Proofs.YtppjmigiogddpaaGreat.C08
namespace Go.Proofs.YtppjmigiogddpaaGreat.C08
open Go Go.Proofs Go.Proofs.YtppjmigiogddpaaGreat.Ab
set_option linter.unusedSimpArgs false
set_option linter.unusedVariables false
attribute [local congr] ite_ctx

def renameE2 (d : Dir) (n : OName) (s : ByteArray) : Int := if ¬ errName (toN n s) = 0 then errName (toN n s) else if 0 ≤ placeIx d.objects (toN n s) then 12 else 0
def renameE (d : Dir) (n : OName) (s : ByteArray) : Int := if ¬ foundE d n 0 = 0 then foundE d n 0 else renameE2 d n s
def renameP (d : Dir) (n : OName) (s : ByteArray) : Dir := if renameE d n s = 0 then ⟨sortO (d.objects.map (renM n s)), d.next⟩ else noDir
theorem renameE2_ok {d : Dir} {n : OName} {s : ByteArray} (h : renameE2 d n s = 0) : errName (toN n s) = 0 ∧ ¬ 0 ≤ placeIx d.objects (toN n s) := by
  rw [renameE2] at h
  by_cases h1 : errName (toN n s) = 0
  · rw [if_neg (not_not_intro h1)] at h
    by_cases h2 : 0 ≤ placeIx d.objects (toN n s)
    · rw [if_pos h2] at h; cases h
    · exact ⟨h1, h2⟩
  · rw [if_pos h1] at h; exact absurd h h1
theorem renameE_ok {d : Dir} {n : OName} {s : ByteArray} (h : renameE d n s = 0) : foundE d n 0 = 0 ∧ renameE2 d n s = 0 := by
  rw [renameE] at h
  by_cases h1 : foundE d n 0 = 0
  · rw [if_neg (not_not_intro h1)] at h; exact ⟨h1, h⟩
  · rw [if_pos h1] at h; exact absurd h h1

theorem set_name (l : List Obj) (i : Nat) (n : OName) (s : ByteArray) : (List.map encObj l).set i [.str n.lib, .str s, .int .i64 n.type, .str (nth l i).owner, .int .i64 (nth l i).seg, .str (nth l i).text, .str (nth l i).content] = List.map encObj (l.set i { nth l i with name := toN n s }) := by
  rw [List.map_set]; rfl
theorem libO_t {n : OName} {s : ByteArray} {o : Obj} (h : n.type = 0) (h2 : o.name.lib = n.name) : libO n s o = { o with name := { o.name with lib := s } } := if_pos ⟨h, h2⟩
theorem libO_f {n : OName} {s : ByteArray} {o : Obj} (h : ¬ (n.type = 0 ∧ o.name.lib = n.name)) : libO n s o = o := if_neg h
theorem set_lib {n : OName} {s : ByteArray} {l : List Obj} {k : Nat} (hk : k < l.length) (h : n.type = 0) (h2 : (nth l k).name.lib = n.name) : (List.map encObj (renL n s l k)).set k [.str s, .str (nth l k).name.name, .int .i64 (nth l k).name.type, .str (nth l k).owner, .int .i64 (nth l k).seg, .str (nth l k).text, .str (nth l k).content] = List.map encObj (renL n s l (k + 1)) := by
  rw [← renL_set hk, List.map_set, libO_t h h2]; rfl

set_option maxHeartbeats 8000000 in
theorem Rename_good (d : Dir) (n : OName) (s : ByteArray) (h : d.objects.length ≤ 1000000) : Ans Tryz.prog 58 [.agg (encDir d), .agg (encOName n), .str s] (.tup [.agg (encDir (renameP d n s)), .int .i64 (renameE d n s)]) := by
  have r1 := found_good d n 0 (by decide) h
  refine Classical.byCases (fun h1 : foundE d n 0 = 0 => ?_) fun h1 => ?_
  case refine_2 =>
    have he : renameE d n s = foundE d n 0 := by rw [renameE, if_pos h1]
    rw [renameP, if_neg (by rw [he]; exact h1), he]
    refine Ans.le (r := .tup [.agg [.nils, .int .i64 0], .int .i64 (foundE d n 0)]) ?_ (le_noDir _) rfl
    refine good_run [(14, [13, 49, 50, 51, 52, 53, 54, 55, 56, 57, 58, 59, 60, 61, 62, 63, 64, 65, 66, 67, 68, 69, 70, 71], [])] mixed Tryz.func58 rfl Tryz.ntmps58 (rs := [.cell 6 24, .tmp 7]) rfl (by decide +kernel) (by kernel_rfl) rfl ?_
    rw [startE_eq 76 _ _ _ rfl rfl]
    set_option maxRecDepth 100000 in simp (maxSteps := 10000000) only [go_sem, Nat.reduceAdd, Nat.reduceSub, Nat.reduceMul, Nat.reduceLT, Nat.reduceLeDiff, Nat.reduceEqDiff, Nat.reduceMod, Nat.reduceDiv, Int.reduceNeg, Int.reduceLE, Int.reduceLT, Int.reduceToNat, Int.reduceEq, Int.reduceNe, ↓reduceIte]
    refine call_of (r1) ?_
    set_option maxRecDepth 100000 in simp (maxSteps := 10000000) only [go_sem, Nat.reduceAdd, Nat.reduceSub, Nat.reduceMul, Nat.reduceLT, Nat.reduceLeDiff, Nat.reduceEqDiff, Nat.reduceMod, Nat.reduceDiv, Int.reduceNeg, Int.reduceLE, Int.reduceLT, Int.reduceToNat, Int.reduceEq, Int.reduceNe, ↓reduceIte,  h1, decide_true, not_false_eq_true]
  have hE : renameE d n s = renameE2 d n s := by rw [renameE, if_neg (not_not_intro h1)]
  rw [h1] at r1
  have r2 : Ans Tryz.prog 50 [.agg [.str n.lib, .str s, .int .i64 n.type]] (.int .i64 (errName (toN n s))) := CheckName_good (toN n s)
  have r3 : Ans Tryz.prog 91 [.agg (encDir d), .agg [.str n.lib, .str s, .int .i64 n.type]] (.int .i64 (placeIx d.objects (toN n s))) := at_good d (toN n s) h
  refine Classical.byCases (fun h2 : errName (toN n s) = 0 => ?_) fun h2 => ?_
  case refine_2 =>
    have he : renameE d n s = errName (toN n s) := by rw [hE, renameE2, if_pos h2]
    rw [renameP, if_neg (by rw [he]; exact h2), he]
    refine Ans.le (r := .tup [.agg [.nils, .int .i64 0], .int .i64 (errName (toN n s))]) ?_ (le_noDir _) rfl
    refine good_run [(14, [13, 49, 50, 51, 52, 53, 54, 55, 56, 57, 58, 59, 60, 61, 62, 63, 64, 65, 66, 67, 68, 69, 70, 71], [])] mixed Tryz.func58 rfl Tryz.ntmps58 (rs := [.cell 6 24, .tmp 7]) rfl (by decide +kernel) (by kernel_rfl) rfl ?_
    rw [startE_eq 76 _ _ _ rfl rfl]
    set_option maxRecDepth 100000 in simp (maxSteps := 10000000) only [go_sem, Nat.reduceAdd, Nat.reduceSub, Nat.reduceMul, Nat.reduceLT, Nat.reduceLeDiff, Nat.reduceEqDiff, Nat.reduceMod, Nat.reduceDiv, Int.reduceNeg, Int.reduceLE, Int.reduceLT, Int.reduceToNat, Int.reduceEq, Int.reduceNe, ↓reduceIte]
    refine call_of (r1) ?_
    set_option maxRecDepth 100000 in simp (maxSteps := 10000000) only [go_sem, Nat.reduceAdd, Nat.reduceSub, Nat.reduceMul, Nat.reduceLT, Nat.reduceLeDiff, Nat.reduceEqDiff, Nat.reduceMod, Nat.reduceDiv, Int.reduceNeg, Int.reduceLE, Int.reduceLT, Int.reduceToNat, Int.reduceEq, Int.reduceNe, ↓reduceIte]
    refine call_of (r2) ?_
    set_option maxRecDepth 100000 in simp (maxSteps := 10000000) only [go_sem, Nat.reduceAdd, Nat.reduceSub, Nat.reduceMul, Nat.reduceLT, Nat.reduceLeDiff, Nat.reduceEqDiff, Nat.reduceMod, Nat.reduceDiv, Int.reduceNeg, Int.reduceLE, Int.reduceLT, Int.reduceToNat, Int.reduceEq, Int.reduceNe, ↓reduceIte,  h2, decide_true, not_false_eq_true]
  rw [h2] at r2
  refine Classical.byCases (fun h3 : 0 ≤ placeIx d.objects (toN n s) => ?_) fun h3 => ?_
  · have he : renameE d n s = 12 := by rw [hE, renameE2, if_neg (not_not_intro h2), if_pos h3]
    rw [renameP, if_neg (by rw [he]; decide), he]
    refine Ans.le (r := .tup [.agg [.nils, .int .i64 0], .int .i64 12]) ?_ (le_noDir _) rfl
    refine good_run [(14, [13, 49, 50, 51, 52, 53, 54, 55, 56, 57, 58, 59, 60, 61, 62, 63, 64, 65, 66, 67, 68, 69, 70, 71], [])] mixed Tryz.func58 rfl Tryz.ntmps58 (rs := [.cell 6 24, .tmp 7]) rfl (by decide +kernel) (by kernel_rfl) rfl ?_
    rw [startE_eq 76 _ _ _ rfl rfl]
    set_option maxRecDepth 100000 in simp (maxSteps := 10000000) only [go_sem, Nat.reduceAdd, Nat.reduceSub, Nat.reduceMul, Nat.reduceLT, Nat.reduceLeDiff, Nat.reduceEqDiff, Nat.reduceMod, Nat.reduceDiv, Int.reduceNeg, Int.reduceLE, Int.reduceLT, Int.reduceToNat, Int.reduceEq, Int.reduceNe, ↓reduceIte]
    refine call_of (r1) ?_
    set_option maxRecDepth 100000 in simp (maxSteps := 10000000) only [go_sem, Nat.reduceAdd, Nat.reduceSub, Nat.reduceMul, Nat.reduceLT, Nat.reduceLeDiff, Nat.reduceEqDiff, Nat.reduceMod, Nat.reduceDiv, Int.reduceNeg, Int.reduceLE, Int.reduceLT, Int.reduceToNat, Int.reduceEq, Int.reduceNe, ↓reduceIte]
    refine call_of (r2) ?_
    set_option maxRecDepth 100000 in simp (maxSteps := 10000000) only [go_sem, Nat.reduceAdd, Nat.reduceSub, Nat.reduceMul, Nat.reduceLT, Nat.reduceLeDiff, Nat.reduceEqDiff, Nat.reduceMod, Nat.reduceDiv, Int.reduceNeg, Int.reduceLE, Int.reduceLT, Int.reduceToNat, Int.reduceEq, Int.reduceNe, ↓reduceIte]
    refine call_of (r3) ?_
    set_option maxRecDepth 100000 in simp (maxSteps := 10000000) only [go_sem, Nat.reduceAdd, Nat.reduceSub, Nat.reduceMul, Nat.reduceLT, Nat.reduceLeDiff, Nat.reduceEqDiff, Nat.reduceMod, Nat.reduceDiv, Int.reduceNeg, Int.reduceLE, Int.reduceLT, Int.reduceToNat, Int.reduceEq, Int.reduceNe, ↓reduceIte,  h3, decide_true]
  have he : renameE d n s = 0 := by rw [hE, renameE2, if_neg (not_not_intro h2), if_neg h3]
  have hfo := (foundE_ok h1).1
  obtain ⟨i, hx, hi, hp⟩ := findP_ok3 hfo
  have hrow := ren_row (s := s) (findE_dir hfo) (findE_ok hfo).2.1 hx hi
  rw [renameP, if_pos he, he, ← hrow]
  rw [hp] at r1
  have hq := map_at encObj hi
  have q1 : (0 : Int) ≤ (i : Int) := by omega
  have q2 : (i : Int) < (d.objects.length : Int) := by omega
  have hset := set_name d.objects i n s
  have hlen : (d.objects.set i { nth d.objects i with name := toN n s }).length = d.objects.length := List.length_set
  generalize d.objects.set i { nth d.objects i with name := toN n s } = L at *
  refine good_run [(14, [13, 49, 50, 51, 52, 53, 54, 55, 56, 57, 58, 59, 60, 61, 62, 63, 64, 65, 66, 67, 68, 69, 70, 71], [])] mixed Tryz.func58 rfl Tryz.ntmps58 (rs := [.cell 6 24, .tmp 7]) rfl (by decide +kernel) (by kernel_rfl) rfl ?_
  rw [startE_eq 76 _ _ _ rfl rfl]
  set_option maxRecDepth 100000 in simp (maxSteps := 10000000) only [go_sem, Nat.reduceAdd, Nat.reduceSub, Nat.reduceMul, Nat.reduceLT, Nat.reduceLeDiff, Nat.reduceEqDiff, Nat.reduceMod, Nat.reduceDiv, Int.reduceNeg, Int.reduceLE, Int.reduceLT, Int.reduceToNat, Int.reduceEq, Int.reduceNe, ↓reduceIte]
  refine call_of (r1) ?_
  set_option maxRecDepth 100000 in simp (maxSteps := 10000000) only [go_sem, Nat.reduceAdd, Nat.reduceSub, Nat.reduceMul, Nat.reduceLT, Nat.reduceLeDiff, Nat.reduceEqDiff, Nat.reduceMod, Nat.reduceDiv, Int.reduceNeg, Int.reduceLE, Int.reduceLT, Int.reduceToNat, Int.reduceEq, Int.reduceNe, ↓reduceIte]
  refine call_of (r2) ?_
  set_option maxRecDepth 100000 in simp (maxSteps := 10000000) only [go_sem, Nat.reduceAdd, Nat.reduceSub, Nat.reduceMul, Nat.reduceLT, Nat.reduceLeDiff, Nat.reduceEqDiff, Nat.reduceMod, Nat.reduceDiv, Int.reduceNeg, Int.reduceLE, Int.reduceLT, Int.reduceToNat, Int.reduceEq, Int.reduceNe, ↓reduceIte]
  refine call_of (r3) ?_
  set_option maxRecDepth 100000 in simp (maxSteps := 10000000) only [go_sem, Nat.reduceAdd, Nat.reduceSub, Nat.reduceMul, Nat.reduceLT, Nat.reduceLeDiff, Nat.reduceEqDiff, Nat.reduceMod, Nat.reduceDiv, Int.reduceNeg, Int.reduceLE, Int.reduceLT, Int.reduceToNat, Int.reduceEq, Int.reduceNe, ↓reduceIte,  h3, decide_false]
  refine callM_of [] [45] (CloneM d.objects h) ⟨rfl, rfl, rfl, by simp, by simp, by simp, by simp, rfl, rfl, rfl, onodup_of (l := [7]) rfl (by decide)⟩ ?_
  set_option maxRecDepth 100000 in simp (maxSteps := 10000000) only [go_sem, Nat.reduceAdd, Nat.reduceSub, Nat.reduceMul, Nat.reduceLT, Nat.reduceLeDiff, Nat.reduceEqDiff, Nat.reduceMod, Nat.reduceDiv, Int.reduceNeg, Int.reduceLE, Int.reduceLT, Int.reduceToNat, Int.reduceEq, Int.reduceNe, ↓reduceIte,  hq, hi, q1, q2, Option.map_some, Int.toNat_natCast, List.length_map, hset, hlen]
  refine loop_by ([13, 49, 50, 51, 52, 53, 54, 55, 56, 57, 58, 59, 60, 61, 62, 63, 64, 65, 66, 67, 68, 69, 70, 71], []) (fun k : Nat => [(.s 48, .int .i64 (k : Int)), (.o 45, .obj 1 41 7 false true ((renL n s L k).map encObj))]) (fun k => d.objects.length - k) (fun k => k ≤ d.objects.length) 0 rfl (Nat.zero_le _) ?_ ?_
  · set_option maxRecDepth 100000 in simp (maxSteps := 10000000) only [go_sem, Nat.reduceAdd, Nat.reduceSub, Nat.reduceMul, Nat.reduceLT, Nat.reduceLeDiff, Nat.reduceEqDiff, Nat.reduceMod, Nat.reduceDiv, Int.reduceNeg, Int.reduceLE, Int.reduceLT, Int.reduceToNat, Int.reduceEq, Int.reduceNe, ↓reduceIte,  renL_zero]
  rintro c' st' hst k hk ih
  set_option maxRecDepth 100000 in simp (maxSteps := 10000000) only [go_sem, Nat.reduceAdd, Nat.reduceSub, Nat.reduceMul, Nat.reduceLT, Nat.reduceLeDiff, Nat.reduceEqDiff, Nat.reduceMod, Nat.reduceDiv, Int.reduceNeg, Int.reduceLE, Int.reduceLT, Int.reduceToNat, Int.reduceEq, Int.reduceNe, ↓reduceIte]
  refine ifI (fun hlt => ?_) fun hlt => ?_
  · have hkl : k < L.length := by omega
    have hq : (List.map encObj (renL n s L k))[k]? = some (encObj (nth L k)) := by rw [List.getElem?_map, renL_get hkl]; rfl
    have hll := renL_len n s L k
    have w1 : (0 : Int) ≤ (k : Int) := by omega
    refine Classical.byCases (fun ht : n.type = 0 => ?_) fun ht => ?_
    · refine Classical.byCases (fun hl : (nth L k).name.lib = n.name => ?_) fun hl => ?_
      · have hs2 := set_lib (s := s) hkl ht hl
        set_option maxRecDepth 100000 in simp (maxSteps := 10000000) only [go_sem, Nat.reduceAdd, Nat.reduceSub, Nat.reduceMul, Nat.reduceLT, Nat.reduceLeDiff, Nat.reduceEqDiff, Nat.reduceMod, Nat.reduceDiv, Int.reduceNeg, Int.reduceLE, Int.reduceLT, Int.reduceToNat, Int.reduceEq, Int.reduceNe, ↓reduceIte,  hlt, ht, hq, hl, hs2, w1, hlen, hll, hkl, List.length_map, Int.toNat_natCast, Option.map_some]
        refine ⟨by decide +kernel, ?_⟩
        refine ih (k + 1) _ (by omega) (by omega) ?_
        set_option maxRecDepth 100000 in simp (maxSteps := 10000000) only [go_sem, Nat.reduceAdd, Nat.reduceSub, Nat.reduceMul, Nat.reduceLT, Nat.reduceLeDiff, Nat.reduceEqDiff, Nat.reduceMod, Nat.reduceDiv, Int.reduceNeg, Int.reduceLE, Int.reduceLT, Int.reduceToNat, Int.reduceEq, Int.reduceNe, ↓reduceIte,  ht, wrap_succ (show k < 9223372036854775807 by omega)]
      · have hsm := renL_same (s := s) hkl (libO_f (n := n) (s := s) (fun q => hl q.2))
        set_option maxRecDepth 100000 in simp (maxSteps := 10000000) only [go_sem, Nat.reduceAdd, Nat.reduceSub, Nat.reduceMul, Nat.reduceLT, Nat.reduceLeDiff, Nat.reduceEqDiff, Nat.reduceMod, Nat.reduceDiv, Int.reduceNeg, Int.reduceLE, Int.reduceLT, Int.reduceToNat, Int.reduceEq, Int.reduceNe, ↓reduceIte,  hlt, ht, hq, hl, w1, hlen, hll, hkl, List.length_map, Int.toNat_natCast, Option.map_some]
        refine ⟨by decide +kernel, ?_⟩
        refine ih (k + 1) _ (by omega) (by omega) ?_
        set_option maxRecDepth 100000 in simp (maxSteps := 10000000) only [go_sem, Nat.reduceAdd, Nat.reduceSub, Nat.reduceMul, Nat.reduceLT, Nat.reduceLeDiff, Nat.reduceEqDiff, Nat.reduceMod, Nat.reduceDiv, Int.reduceNeg, Int.reduceLE, Int.reduceLT, Int.reduceToNat, Int.reduceEq, Int.reduceNe, ↓reduceIte,  ht, hsm, wrap_succ (show k < 9223372036854775807 by omega)]
    · have hsm := renL_same (s := s) hkl (libO_f (n := n) (s := s) (fun q => ht q.1))
      set_option maxRecDepth 100000 in simp (maxSteps := 10000000) only [go_sem, Nat.reduceAdd, Nat.reduceSub, Nat.reduceMul, Nat.reduceLT, Nat.reduceLeDiff, Nat.reduceEqDiff, Nat.reduceMod, Nat.reduceDiv, Int.reduceNeg, Int.reduceLE, Int.reduceLT, Int.reduceToNat, Int.reduceEq, Int.reduceNe, ↓reduceIte,  hlt, ht, w1, hlen, hll, hkl, List.length_map, Int.toNat_natCast, Option.map_some]
      refine ⟨by decide +kernel, ?_⟩
      refine ih (k + 1) _ (by omega) (by omega) ?_
      set_option maxRecDepth 100000 in simp (maxSteps := 10000000) only [go_sem, Nat.reduceAdd, Nat.reduceSub, Nat.reduceMul, Nat.reduceLT, Nat.reduceLeDiff, Nat.reduceEqDiff, Nat.reduceMod, Nat.reduceDiv, Int.reduceNeg, Int.reduceLE, Int.reduceLT, Int.reduceToNat, Int.reduceEq, Int.reduceNe, ↓reduceIte,  hsm, wrap_succ (show k < 9223372036854775807 by omega)]
  · have hke : k = L.length := by omega
    subst hst
    have hmp : 0 < (List.map (libO n s) L).length := by rw [List.length_map, hlen]; omega
    have hmp2 : (List.map (libO n s) L).length ≤ 1000000 := by rw [List.length_map, hlen]; exact h
    set_option maxRecDepth 100000 in simp (maxSteps := 10000000) only [go_sem, Nat.reduceAdd, Nat.reduceSub, Nat.reduceMul, Nat.reduceLT, Nat.reduceLeDiff, Nat.reduceEqDiff, Nat.reduceMod, Nat.reduceDiv, Int.reduceNeg, Int.reduceLE, Int.reduceLT, Int.reduceToNat, Int.reduceEq, Int.reduceNe, ↓reduceIte,  hke, renL_all]
    refine callM_of [45] [45] (sortedM (List.map (libO n s) L) d.next hmp hmp2) ⟨by simp [renA, ren1, invM, posOf, verOf, AV.cellP, Env.go], rfl, rfl, by simp, by simp, by simp, by simp, rfl, rfl, rfl, onodup_of (l := [10]) rfl (by decide)⟩ ?_
    set_option maxRecDepth 100000 in simp (maxSteps := 10000000) only [go_sem, Nat.reduceAdd, Nat.reduceSub, Nat.reduceMul, Nat.reduceLT, Nat.reduceLeDiff, Nat.reduceEqDiff, Nat.reduceMod, Nat.reduceDiv, Int.reduceNeg, Int.reduceLE, Int.reduceLT, Int.reduceToNat, Int.reduceEq, Int.reduceNe, ↓reduceIte]
end Go.Proofs.YtppjmigiogddpaaGreat.C08
namespace Go.Proofs.YtppjmigiogddpaaGreat.C08
open Go Go.Proofs Go.Proofs.YtppjmigiogddpaaGreat.Ab
set_option linter.unusedSimpArgs false
set_option linter.unusedVariables false

def HasL (l : List Obj) (n : ByteArray) : Prop := n = qsys ∨ ∃ x ∈ l, x.name = ⟨qsys, n, 0⟩
theorem hasL_iff {l : List Obj} {n : ByteArray} : hasLib l n = true ↔ HasL l n := by
  rw [hasLib, Bool.or_eq_true, decide_eq_true_eq, placeIx, findIx_any (fun o : Obj => decide (o.name = ⟨qsys, n, 0⟩)) l 0, List.any_eq_true]
  constructor
  · rintro (h | ⟨x, hx, h⟩)
    · exact .inl h
    · exact .inr ⟨x, hx, of_decide_eq_true h⟩
  · rintro (h | ⟨x, hx, h⟩)
    · exact .inl h
    · exact .inr ⟨x, hx, decide_eq_true h⟩

structure DirOk (d : Dir) : Prop where
  len : d.objects.length ≤ 40
  next : 1 ≤ d.next ∧ d.next ≤ 10000
  sorted : Sorted d.objects
  segs : d.objects.Pairwise fun a b => ¬ a.seg = b.seg
  errs : ∀ o ∈ d.objects, errObj o = 0
  range : ∀ o ∈ d.objects, 1 ≤ o.seg ∧ o.seg < d.next
  libs : ∀ o ∈ d.objects, HasL d.objects o.name.lib

theorem scanI_allz {f : Nat → Int} : ∀ (k i : Nat), (∀ j, i ≤ j → j < i + k → f j = 0) → scanI f k i = (0, 0)
  | 0, i, _ => rfl
  | k + 1, i, h => by rw [scanI, if_pos (h i (Nat.le_refl _) (by omega)), scanI_allz k (i + 1) fun j h1 h2 => h j (by omega) (by omega)]
theorem dirOk_iff {d : Dir} : (dirE d).2 = 0 ↔ DirOk d := by
  constructor
  · intro h
    have hk := dirE_ok h
    have hi : ∀ o ∈ d.objects, ∃ i, i < d.objects.length ∧ o = nth d.objects i ∧ ObjOk d i := fun o ho => by
      obtain ⟨i, hi, rfl⟩ := List.getElem_of_mem ho
      exact ⟨i, hi, (nth_eq hi).symm, (objE_ok hi).1 (dirE_objs h hi)⟩
    refine ⟨hk.1, hk.2, dir_sorted h, ?_, fun o ho => ?_, fun o ho => ?_, fun o ho => ?_⟩
    · rw [List.pairwise_iff_getElem]
      intro i j h1 h2 hij
      have := ((objE_ok h2).1 (dirE_objs h h2)).once i hij
      rwa [nth_eq h1, nth_eq h2] at this
    · obtain ⟨i, _, rfl, q⟩ := hi o ho; exact q.err
    · obtain ⟨i, _, rfl, q⟩ := hi o ho; exact q.seg
    · obtain ⟨i, _, rfl, q⟩ := hi o ho; exact hasL_iff.1 q.lib
  · intro h
    have h1 := h.len; have h2 := h.next
    have hz : scanI (objE d) d.objects.length 0 = (0, 0) := scanI_allz _ _ fun j _ hj => by
      have hj : j < d.objects.length := by omega
      have hm := nth_mem hj
      refine (objE_ok hj).2 ⟨h.errs _ hm, h.range _ hm, fun h0 => ?_, fun k hk => ?_, hasL_iff.2 (h.libs _ hm)⟩
      · have := List.pairwise_iff_getElem.1 h.sorted (j - 1) j (by omega) hj (by omega)
        rwa [← nth_eq, ← nth_eq] at this
      · have := List.pairwise_iff_getElem.1 h.segs k j (by omega) hj hk
        rwa [← nth_eq, ← nth_eq] at this
    rw [dirE, if_neg (by omega), if_neg (by omega), hz, if_pos rfl]

theorem seg_inj {l : List Obj} (h : l.Pairwise fun a b => ¬ a.seg = b.seg) {a b : Obj} (ha : a ∈ l) (hb : b ∈ l) (e : a.seg = b.seg) : a = b := by
  obtain ⟨i, hi, h1⟩ := List.getElem_of_mem ha
  obtain ⟨j, hj, h2⟩ := List.getElem_of_mem hb
  have hp := List.pairwise_iff_getElem.1 h
  rcases Nat.lt_trichotomy i j with q | q | q
  · have := hp i j hi hj q
    rw [h1, h2] at this; exact absurd e this
  · subst q; rw [← h1, ← h2]
  · have := hp j i hj hi q
    rw [h1, h2] at this; exact absurd e.symm this

structure Step (d x : Dir) : Prop where
  ok : DirOk x
  next : d.next ≤ x.next
  old : ∀ p ∈ x.objects, (p.seg = d.next ∧ d.next < x.next) ∨ ∃ q ∈ d.objects, q.seg = p.seg ∧ q.name.type = p.name.type ∧ q.owner = p.owner ∧ q.text = p.text ∧
    (permR q.name.type.toNat 5 = false → permR q.name.type.toNat 7 = false → p.content = q.content)

theorem step_create {d : Dir} {o : Obj} (hd : DirOk d) (h : createE2 d o = 0) : Step d ⟨insO { o with seg := d.next } d.objects, d.next + 1⟩ := by
  obtain ⟨h1, h2, h3, h4, h5⟩ := createE2_ok h
  have hno := place_no h4
  have hl := hd.len; have hn := hd.next
  refine ⟨⟨?_, ?_, ?_, ?_, ?_, ?_, ?_⟩, ?_, ?_⟩
  · show (insO _ _).length ≤ 40
    rw [insO_len]; omega
  · show 1 ≤ d.next + 1 ∧ d.next + 1 ≤ 10000
    omega
  · exact insO_sorted hd.sorted hno
  · refine ((insO_perm { o with seg := d.next } d.objects).pairwise_iff fun {x y} q e => q e.symm).2 (List.pairwise_cons.2 ⟨fun a ha e => ?_, hd.segs⟩)
    have := hd.range a ha
    have e' : d.next = a.seg := e
    omega
  · intro x hx
    rcases insO_mem.1 hx with rfl | hx
    · exact h1
    · exact hd.errs x hx
  · intro x hx
    rcases insO_mem.1 hx with rfl | hx
    · show 1 ≤ d.next ∧ d.next < d.next + 1
      omega
    · have := hd.range x hx
      show 1 ≤ x.seg ∧ x.seg < d.next + 1
      omega
  · have hm : ∀ n, HasL d.objects n → HasL (insO { o with seg := d.next } d.objects) n := fun n q => by
      rcases q with q | ⟨x, hx, q⟩
      · exact .inl q
      · exact .inr ⟨x, insO_mem.2 (.inr hx), q⟩
    intro x hx
    rcases insO_mem.1 hx with rfl | hx
    · exact hm _ (hasL_iff.1 h3)
    · exact hm _ (hd.libs x hx)
  · show d.next ≤ d.next + 1
    omega
  · intro p hp
    rcases insO_mem.1 hp with rfl | hp
    · exact .inl ⟨rfl, by show d.next < d.next + 1; omega⟩
    · exact .inr ⟨p, hp, rfl, rfl, rfl, rfl, fun _ _ => rfl⟩

theorem errName_lib {m : OName} {n : OName} {s : ByteArray} (h : errName m = 0) (ht : n.type = 0) (hn : errName n = 0) (hl : m.lib = n.name) (hs : errName (toN n s) = 0) : errName ⟨s, m.name, m.type⟩ = 0 := by
  have h1 := errName_sys hn ht
  have h2 := errName_sys hs ht
  rw [errName] at h hs ⊢
  split at h
  · cases h
  rename_i q1
  split at h
  · cases h
  rename_i q2
  split at h
  · cases h
  rename_i q3
  split at h
  · cases h
  rename_i q4
  split at hs
  · cases hs
  split at hs
  · cases hs
  split at hs
  · cases hs
  rename_i q5
  have q5' : ¬ isNm s = false := q5
  rw [if_neg q1, if_neg q5', if_neg q3, if_neg]
  intro q
  apply q4
  have hne : ¬ m.lib = qsys := fun e => h1.2 (by rw [← hl, e])
  rw [clash, Bool.or_eq_true, Bool.and_eq_true, Bool.and_eq_true, decide_eq_true_eq, decide_eq_true_eq, decide_eq_true_eq] at q ⊢
  rcases q with q | q
  · exact .inl ⟨q.1, hne⟩
  · exact .inl ⟨by show isSys m.type = true; rw [show m.type = 0 from q.1]; decide, hne⟩

theorem errObj_set {o : Obj} {m : OName} (h : errObj o = 0) (hm : errName m = 0) : errObj { o with name := m } = 0 := by
  rw [errObj] at h ⊢
  split at h
  · rename_i q; exact absurd h q
  rename_i q1
  rw [if_neg (not_not_intro hm)]
  exact h
theorem errObj_of {o : Obj} (h : errObj o = 0) : errName o.name = 0 := by
  rw [errObj] at h
  split at h
  · exact h
  · rename_i q; exact Classical.not_not.1 q

theorem renM_keeps (n : OName) (s : ByteArray) (o : Obj) : (renM n s o).seg = o.seg ∧ (renM n s o).name.type = o.name.type ∧ (renM n s o).owner = o.owner ∧ (renM n s o).text = o.text ∧ (renM n s o).content = o.content := by
  rw [renM]
  split
  · exact ⟨rfl, rfl, rfl, rfl, rfl⟩
  · rw [libO]; split <;> exact ⟨rfl, rfl, rfl, rfl, rfl⟩
theorem step_rename {d : Dir} {n : OName} {s : ByteArray} (hd : DirOk d) (hf : findE d n = 0) (h : renameE2 d n s = 0) : Step d ⟨sortO (d.objects.map (renM n s)), d.next⟩ := by
  obtain ⟨hm, hp⟩ := renameE2_ok h
  have hE := dirOk_iff.2 hd
  have hn := (findE_ok hf).2.1
  obtain ⟨i, hx, hi, _⟩ := findP_ok3 hf
  have hname := place_name hx
  have hd2 := ren_names hE hn hm hp
  have hperm := sortO_perm (d.objects.map (renM n s))
  have hmem : ∀ o, o ∈ sortO (d.objects.map (renM n s)) ↔ ∃ q ∈ d.objects, renM n s q = o := fun o => by rw [hperm.mem_iff, List.mem_map]
  refine ⟨⟨?_, hd.next, ?_, ?_, ?_, ?_, ?_⟩, Int.le_refl _, ?_⟩
  · show (sortO _).length ≤ 40
    rw [sortO_len, List.length_map]; exact hd.len
  · show Sorted (sortO _)
    rw [← insAll_sort hd2]
    exact (insF_sort _ [] List.Pairwise.nil (fun a ha => by cases ha) hd2).1
  · refine (hperm.pairwise_iff fun {x y} q e => q e.symm).2 ?_
    rw [List.pairwise_map]
    exact hd.segs.imp fun {a b} q => by rw [(renM_keeps n s a).1, (renM_keeps n s b).1]; exact q
  · intro o ho
    obtain ⟨q, hq, rfl⟩ := (hmem o).1 ho
    have he := hd.errs q hq
    rw [renM]
    split
    · rename_i e
      refine errObj_set he ?_
      rw [e]; exact hm
    · rw [libO]
      split
      · rename_i e
        exact errObj_set he (errName_lib (errObj_of he) e.1 hn e.2 hm)
      · exact he
  · intro o ho
    obtain ⟨q, hq, rfl⟩ := (hmem o).1 ho
    rw [(renM_keeps n s q).1]; exact hd.range q hq
  · intro o ho
    obtain ⟨q, hq, rfl⟩ := (hmem o).1 ho
    -- a library that keeps its name
    have keep : ∀ L, HasL d.objects L → (n.type = 0 → ¬ L = n.name) → HasL (sortO (d.objects.map (renM n s))) L := fun L hL hne => by
      rcases hL with hL | ⟨x, hx, hL⟩
      · exact .inl hL
      · refine .inr ⟨renM n s x, (hmem _).2 ⟨x, hx, rfl⟩, ?_⟩
        rw [renM, if_neg, libO, if_neg]
        · exact hL
        · rintro ⟨e1, e2⟩
          rw [hL] at e2
          exact (errName_sys hn e1).2 e2.symm
        · intro e
          rw [hL] at e
          exact hne (by rw [← e]) (by rw [← e])
    rw [renM]
    split
    · rename_i e
      show HasL _ q.name.lib
      refine keep _ (hd.libs q hq) fun e1 e2 => ?_
      have := errName_sys hn e1
      rw [e] at e2
      exact this.2 (by rw [← e2]; exact this.1)
    · rename_i e0
      rw [libO]
      split
      · rename_i e
        refine .inr ⟨renM n s (nth d.objects i), (hmem _).2 ⟨_, nth_mem hi, rfl⟩, ?_⟩
        rw [renM, if_pos hname]
        show (⟨(nth d.objects i).name.lib, s, (nth d.objects i).name.type⟩ : OName) = ⟨qsys, s, 0⟩
        rw [hname, e.1, (errName_sys hn e.1).1]
      · rename_i e
        exact keep _ (hd.libs q hq) fun e1 e2 => e ⟨e1, e2⟩
  · intro p hp2
    obtain ⟨q, hq, rfl⟩ := (hmem p).1 hp2
    have := renM_keeps n s q
    exact .inr ⟨q, hq, this.1.symm, this.2.1.symm, this.2.2.1.symm, this.2.2.2.1.symm, fun _ _ => this.2.2.2.2⟩

theorem ok_few {d : Dir} (h : DirOk d) : fewD d = true := by
  have hl := h.len
  rw [fewD, Bool.and_eq_true, decide_eq_true_eq, List.all_eq_true]
  refine ⟨by omega, fun o ho => ?_⟩
  have he := h.errs o ho
  have hn := errObj_of he
  rw [errObj, if_neg (not_not_intro hn)] at he
  split at he
  · cases he
  rename_i q1
  split at he
  · cases he
  rename_i q2
  rw [errName] at hn
  split at hn
  · cases hn
  split at hn
  · cases hn
  rename_i q3
  split at hn
  · cases hn
  rename_i q4
  have a1 := isNm_size (s := o.name.lib) (by simpa using q3)
  have a2 := isNm_size (s := o.name.name) (by simpa using q4)
  have a3 := isNm_size (s := o.owner) (by simpa using q1)
  rw [fewO, fewN]
  simp only [Bool.and_eq_true, decide_eq_true_eq]
  omega
end Go.Proofs.YtppjmigiogddpaaGreat.C08
namespace Go.Proofs.YtppjmigiogddpaaGreat.C08
open Go Go.Proofs Go.Proofs.YtppjmigiogddpaaGreat.Ab
set_option linter.unusedSimpArgs false
set_option linter.unusedVariables false

theorem sys_no_move : ∀ t : Nat, t < 30 → isSys (t : Int) = true → permR t 1 = false := by decide +kernel
theorem errName_move {n : OName} {s : ByteArray} (h : errName n = 0) (hs : isSys n.type = false) (hl : isNm s = true) : errName ⟨s, n.name, n.type⟩ = 0 := by
  rw [errName] at h ⊢
  split at h
  · cases h
  rename_i q1
  split at h
  · cases h
  split at h
  · cases h
  rename_i q3
  rw [if_neg q1, if_neg (by rw [hl]; decide), if_neg q3, if_neg]
  intro q
  rw [clash, Bool.or_eq_true, Bool.and_eq_true, Bool.and_eq_true, decide_eq_true_eq, decide_eq_true_eq] at q
  rcases q with q | q
  · rw [hs] at q; cases q.1
  · have e : n.type = 0 := q.1
    rw [e] at hs; cases hs

/-- An object of another's number, kind, owner and content stands in the directory. -/
def HasO (x : Dir) (o : Obj) : Prop := ∃ p ∈ x.objects, p.seg = o.seg ∧ p.name.type = o.name.type ∧ p.owner = o.owner ∧ p.content = o.content
theorem HasO.refl {x : Dir} {o : Obj} (h : o ∈ x.objects) : HasO x o := ⟨o, h, rfl, rfl, rfl, rfl⟩
theorem seg_cases {l : List Obj} {n : Int} : (∀ o ∈ l, ¬ o.seg = n) ∨ ∃ i : Nat, segIx l n = (i : Int) ∧ i < l.length ∧ (nth l i).seg = n := by
  by_cases h : (l.any fun o => decide (o.seg = n)) = true
  · right
    rw [← findIx_any (fun o : Obj => decide (o.seg = n)) l 0, decide_eq_true_eq] at h
    obtain ⟨i, hi⟩ : ∃ i : Nat, findIx (fun o : Obj => decide (o.seg = n)) l 0 = (i : Int) := ⟨_, (Int.toNat_of_nonneg h).symm⟩
    have h2 := (findIx_true hi).2
    have h3 := findIx_ge (fun o : Obj => decide (o.seg = n)) l 0
    rw [Nat.sub_zero, decide_eq_true_eq] at h2
    exact ⟨i, hi, by omega, h2⟩
  · left
    intro o ho e
    exact h (List.any_eq_true.2 ⟨o, ho, by simpa using e⟩)
theorem kept_find {x : Dir} {o : Obj} (hx : DirOk x) (h : HasO x o) : ∃ i : Nat, segIx x.objects o.seg = (i : Int) ∧ i < x.objects.length ∧
    (nth x.objects i).seg = o.seg ∧ (nth x.objects i).name.type = o.name.type ∧ (nth x.objects i).owner = o.owner ∧ (nth x.objects i).content = o.content := by
  obtain ⟨p, hp, h1, h2, h3, h4⟩ := h
  rcases seg_cases (l := x.objects) (n := o.seg) with q | ⟨i, q1, q2, q3⟩
  · exact absurd h1 (q p hp)
  · have := seg_inj hx.segs hp (nth_mem q2) (by rw [h1, q3])
    subst this
    exact ⟨i, q1, q2, q3, h2, h3, h4⟩

theorem kept_create {d : Dir} {o q : Obj} (h : HasO d q) : HasO ⟨insO o d.objects, d.next + 1⟩ q := by
  obtain ⟨p, hp, k⟩ := h
  exact ⟨p, insO_mem.2 (.inr hp), k⟩
theorem kept_rename {d : Dir} {n : OName} {s : ByteArray} {q : Obj} (h : HasO d q) : HasO ⟨sortO (d.objects.map (renM n s)), d.next⟩ q := by
  obtain ⟨p, hp, h1, h2, h3, h4⟩ := h
  have hk := renM_keeps n s p
  refine ⟨renM n s p, (sortO_perm _).mem_iff.2 (List.mem_map.2 ⟨p, hp, rfl⟩), ?_, ?_, ?_, ?_⟩
  · rw [hk.1, h1]
  · rw [hk.2.1, h2]
  · rw [hk.2.2.1, h3]
  · rw [hk.2.2.2.2, h4]

theorem kept_move {d : Dir} {n : OName} {s : ByteArray} (hd : DirOk d) (h : moveE d n s = 0) : DirOk (movedD d n s) ∧ ∀ q, HasO d q → HasO (movedD d n s) q := by
  rw [moveE] at h
  have h1 : foundE d n 1 = 0 := Classical.byContradiction fun z => by rw [if_pos z] at h; exact z h
  rw [if_neg (not_not_intro h1)] at h
  have h2 : libE d.objects s = 0 := Classical.byContradiction fun z => by rw [if_pos z] at h; exact z h
  rw [if_neg (not_not_intro h2)] at h
  have h3 : ¬ 0 ≤ placeIx d.objects ⟨s, n.name, n.type⟩ := fun z => by rw [if_pos z] at h; cases h
  clear h
  have hfo := foundE_ok h1
  obtain ⟨i, hx, hi⟩ := findP_ok hfo.1
  have hnm := (findE_ok hfo.1).2.1
  obtain ⟨t, ht, htt⟩ := errName_type hnm
  have hsy : isSys n.type = false := by
    rw [Bool.eq_false_iff]; intro z
    have := sys_no_move t ht (by rw [← htt]; exact z)
    have hp := hfo.2
    rw [htt, Int.toNat_natCast, this] at hp; cases hp
  have hlib : isNm s = true ∧ hasLib d.objects s = true := by
    rw [libE] at h2
    split at h2
    · cases h2
    rename_i z1
    split at h2
    · cases h2
    rename_i z2
    exact ⟨by simpa using z1, by simpa using z2⟩
  have hn := place_name hx
  have hm := nth_mem hi
  have hW := without_sub d.objects hi
  have hlen : (withoutL d.objects i).length + 1 = d.objects.length := without_len d.objects hi
  have hperm : d.objects.Perm (nth d.objects i :: withoutL d.objects i) := by
    conv => lhs; rw [split_at hi]
    exact List.perm_middle
  have hno : ∀ a ∈ d.objects, ¬ a.name = (⟨s, n.name, n.type⟩ : OName) := place_no h3
  rw [movedD, hx, Int.toNat_natCast]
  generalize hQ : nth d.objects i = Q at *
  generalize hO : ({ Q with name := ⟨s, n.name, n.type⟩ } : Obj) = O
  have o1 : O.seg = Q.seg := by rw [← hO]
  have o2 : O.name = ⟨s, n.name, n.type⟩ := by rw [← hO]
  have o3 : O.owner = Q.owner := by rw [← hO]
  have o4 : O.content = Q.content := by rw [← hO]
  have o5 : errObj O = 0 := by rw [← hO]; exact errObj_set (hd.errs Q hm) (errName_move hnm hsy hlib.1)
  have hmem : ∀ x, x ∈ d.objects ↔ x = Q ∨ x ∈ withoutL d.objects i := fun x => by rw [hperm.mem_iff, List.mem_cons]
  generalize withoutL d.objects i = W at *
  have hl := hd.len
  refine ⟨⟨?_, hd.next, ?_, ?_, ?_, ?_, ?_⟩, ?_⟩
  · show (insO O W).length ≤ 40
    rw [insO_len]; omega
  · exact insO_sorted (hd.sorted.sublist hW) fun a ha => by rw [o2]; exact hno a (hW.subset ha)
  · have hs : (Q :: W).Pairwise fun a b => ¬ a.seg = b.seg := (hperm.pairwise_iff fun {x y} q e => q e.symm).1 hd.segs
    obtain ⟨k1, k2⟩ := List.pairwise_cons.1 hs
    refine ((insO_perm O W).pairwise_iff fun {x y} q e => q e.symm).2 (List.pairwise_cons.2 ⟨fun a ha e => ?_, k2⟩)
    exact k1 a ha (by rw [← o1, e])
  · intro x hx
    rcases insO_mem.1 hx with rfl | hx
    · exact o5
    · exact hd.errs x (hW.subset hx)
  · intro x hx
    rcases insO_mem.1 hx with rfl | hx
    · rw [o1]; exact hd.range Q hm
    · exact hd.range x (hW.subset hx)
  · have hh : ∀ y, HasL d.objects y → HasL (insO O W) y := fun y q => by
      rcases q with q | ⟨x, hx, q⟩
      · exact .inl q
      · rcases (hmem x).1 hx with rfl | hx
        · exfalso
          rw [q] at hn
          rw [← hn] at hsy
          have hz : isSys 0 = false := hsy
          exact absurd hz (by decide)
        · exact .inr ⟨x, insO_mem.2 (.inr hx), q⟩
    intro x hx
    rcases insO_mem.1 hx with rfl | hx
    · rw [o2]; exact hh _ (hasL_iff.1 hlib.2)
    · exact hh _ (hd.libs x (hW.subset hx))
  · rintro q ⟨p, hp, k1, k2, k3, k4⟩
    rcases (hmem p).1 hp with rfl | hp
    · refine ⟨O, insO_mem.2 (.inl rfl), by rw [o1, k1], ?_, by rw [o3, k3], by rw [o4, k4]⟩
      rw [o2, ← k2, hn]
    · exact ⟨p, insO_mem.2 (.inr hp), k1, k2, k3, k4⟩

/-- A step. -/
structure LStep where
  kind : Int
  src : OName
  dst : OName
deriving Inhabited
def encStep (s : LStep) : List AV := [.int .u8 s.kind, .str s.src.lib, .str s.src.name, .int .i64 s.src.type, .str s.dst.lib, .str s.dst.name, .int .i64 s.dst.type]
def chE (d : Dir) (s : LStep) : Int := if s.kind = 0 then moveE d s.src s.dst.lib else if s.kind = 1 then renameE d s.src s.dst.name else dupE d s.src s.dst
def chP (d : Dir) (s : LStep) : Dir := if s.kind = 0 then moveP d s.src s.dst.lib else if s.kind = 1 then renameP d s.src s.dst.name else dupP d s.src s.dst
theorem kept_ch {d : Dir} {s : LStep} (hd : DirOk d) (h : chE d s = 0) : DirOk (chP d s) ∧ ∀ q, HasO d q → HasO (chP d s) q := by
  unfold chE at h
  unfold chP
  by_cases h0 : s.kind = 0
  · rw [if_pos h0] at h ⊢
    rw [moveP, if_pos h]
    exact kept_move hd h
  rw [if_neg h0] at h ⊢
  by_cases h1 : s.kind = 1
  · rw [if_pos h1] at h ⊢
    rw [renameP, if_pos h]
    have hk := renameE_ok h
    exact ⟨(step_rename hd (foundE_ok hk.1).1 hk.2).ok, fun q hq => kept_rename hq⟩
  rw [if_neg h1] at h ⊢
  rw [dupP, if_pos h]
  have hc : createE d (copyO d s.src s.dst) = 0 := by
    rw [dupE] at h
    split at h
    · rename_i z; exact absurd h z
    split at h
    · rename_i z; exact absurd h z
    split at h
    · cases h
    · exact h
  have hE := dirOk_iff.2 hd
  have hok := createE_ok hc
  have h2 : createE2 d (copyO d s.src s.dst) = 0 := by rw [createE_eq, if_neg (not_not_intro hE)] at hc; exact hc
  rw [createP, if_pos hc, sortO_ins (o := { copyO d s.src s.dst with seg := d.next }) hd.sorted (place_no hok.2.1)]
  exact ⟨(step_create hd h2).ok, fun q hq => kept_create hq⟩
end Go.Proofs.YtppjmigiogddpaaGreat.C08
