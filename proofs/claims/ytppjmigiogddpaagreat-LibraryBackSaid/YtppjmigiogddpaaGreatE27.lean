/- Chapter 9: AddEntry put together. -/
import Derived.Test.YtppjmigiogddpaaGreatE19
namespace Go.Proofs.YtppjmigiogddpaaGreat.C08
open Go Go.Proofs Go.Proofs.YtppjmigiogddpaaGreat.Ab
set_option linter.unusedSimpArgs false
set_option linter.unusedVariables false
attribute [local congr] ite_ctx

section
variable {l : LList} {x : LEntry} (hp : ¬ (x.pos < 0 ∨ 5 ≤ x.pos))
theorem addE2_4 (h : x.pos < 0 ∨ 5 ≤ x.pos) : addE2 l x = 4 := by rw [addE2, if_pos h]
include hp
theorem addE2_5 (h : byRefB x.pos = decide (x.ref = ⟨#[]⟩)) : addE2 l x = 5 := by rw [addE2, if_neg hp, if_pos h]
variable (h : ¬ byRefB x.pos = decide (x.ref = ⟨#[]⟩))
include h
theorem addE2_40 (h2 : byRefB x.pos = true ∧ ixS l.user x.ref < 0) : addE2 l x = 40 := by rw [addE2, if_neg hp, if_neg h, if_pos h2]
variable (h2 : ¬ (byRefB x.pos = true ∧ ixS l.user x.ref < 0))
include h2
theorem addE2_13 (h3 : (l.system.any fun p => decide (p = x.lib)) = true ∨ ((leftU l x).any fun p => decide (p = x.lib)) = true) : addE2 l x = 13 := by rw [addE2, if_neg hp, if_neg h, if_neg h2, if_pos h3]
variable (h3 : ¬ ((l.system.any fun p => decide (p = x.lib)) = true ∨ ((leftU l x).any fun p => decide (p = x.lib)) = true))
include h3
theorem addE2_30 (h4 : (leftU l x).length = 8) : addE2 l x = 30 := by rw [addE2, if_neg hp, if_neg h, if_neg h2, if_neg h3, if_pos h4]
theorem addE2_0 (h4 : ¬ (leftU l x).length = 8) : addE2 l x = 0 := by rw [addE2, if_neg hp, if_neg h, if_neg h2, if_neg h3, if_neg h4]
end
theorem add_err {d : Dir} {l : LList} {x : LEntry} {E : Int} (hE : addE d l x = E) (h0 : ¬ E = 0) (k : Ans Tryz.prog 30 [.agg (encDir d), .agg (encLL l), .agg (encLE x)] (.tup [.agg [.nils, .str ⟨#[]⟩, .nils], .int .i64 E])) :
    Ans Tryz.prog 30 [.agg (encDir d), .agg (encLL l), .agg (encLE x)] (.tup [.agg (encLL (addP d l x)), .int .i64 (addE d l x)]) := by
  rw [addP, if_neg (by rw [hE]; exact h0), hE]
  exact Ans.le k (le_zeroT E) rfl
theorem add_ok {d : Dir} {l : LList} {x : LEntry} {U : List ByteArray} {K : Nat} (hE : addE d l x = 0) (hU : leftU l x = U) (hK : addK l x = K) (k : Ans Tryz.prog 30 [.agg (encDir d), .agg (encLL l), .agg (encLE x)] (.tup [.agg [.sl (l.system.map encStr), .str l.current, .sl ((insS U K x.lib).map encStr)], .int .i64 0])) :
    Ans Tryz.prog 30 [.agg (encDir d), .agg (encLL l), .agg (encLE x)] (.tup [.agg (encLL (addP d l x)), .int .i64 (addE d l x)]) := by
  rw [addP, if_pos hE, hE, hU, hK]
  exact k

set_option maxHeartbeats 8000000 in
theorem AddEntry_good (d : Dir) (l : LList) (x : LEntry) (h : d.objects.length ≤ 1000000) (h1 : l.system.length ≤ 1000) (h2 : l.user.length ≤ 1000) :
    Ans Tryz.prog 30 [.agg (encDir d), .agg (encLL l), .agg (encLE x)] (.tup [.agg (encLL (addP d l x)), .int .i64 (addE d l x)]) := by
  have cl := CheckList_good d l h h1 h2
  have kn := known_good d x.lib h
  refine Classical.byCases (fun k1 : (listE d l).2 = 0 => ?_) fun k1 => ?_
  case refine_2 =>
    refine add_err (E := (listE d l).2) (by rw [addE, if_pos k1]) k1 ?_
    refine good_run [] mixed Tryz.func30 rfl Tryz.ntmps30 (rs := [.cell 6 53, .tmp 7]) rfl (by decide +kernel) (by kernel_rfl) rfl ?_
    rw [startE_eq 131 _ _ _ rfl rfl]
    set_option maxRecDepth 100000 in simp (maxSteps := 10000000) only [go_sem, Nat.reduceAdd, Nat.reduceSub, Nat.reduceMul, Nat.reduceLT, Nat.reduceLeDiff, Nat.reduceEqDiff, Nat.reduceMod, Nat.reduceDiv, Int.reduceNeg, Int.reduceLE, Int.reduceLT, Int.reduceToNat, Int.reduceEq, Int.reduceNe, ↓reduceIte]
    refine call_of (cl) ?_
    set_option maxRecDepth 100000 in simp (maxSteps := 10000000) only [go_sem, Nat.reduceAdd, Nat.reduceSub, Nat.reduceMul, Nat.reduceLT, Nat.reduceLeDiff, Nat.reduceEqDiff, Nat.reduceMod, Nat.reduceDiv, Int.reduceNeg, Int.reduceLE, Int.reduceLT, Int.reduceToNat, Int.reduceEq, Int.reduceNe, ↓reduceIte,  k1, not_false_eq_true, decide_true]
  refine Classical.byCases (fun k2 : libE d.objects x.lib = 0 => ?_) fun k2 => ?_
  case refine_2 =>
    refine add_err (E := libE d.objects x.lib) (by rw [addE, if_neg (not_not_intro k1), if_pos k2]) k2 ?_
    refine good_run [] mixed Tryz.func30 rfl Tryz.ntmps30 (rs := [.cell 6 53, .tmp 7]) rfl (by decide +kernel) (by kernel_rfl) rfl ?_
    rw [startE_eq 131 _ _ _ rfl rfl]
    set_option maxRecDepth 100000 in simp (maxSteps := 10000000) only [go_sem, Nat.reduceAdd, Nat.reduceSub, Nat.reduceMul, Nat.reduceLT, Nat.reduceLeDiff, Nat.reduceEqDiff, Nat.reduceMod, Nat.reduceDiv, Int.reduceNeg, Int.reduceLE, Int.reduceLT, Int.reduceToNat, Int.reduceEq, Int.reduceNe, ↓reduceIte]
    refine call_of (cl) ?_
    set_option maxRecDepth 100000 in simp (maxSteps := 10000000) only [go_sem, Nat.reduceAdd, Nat.reduceSub, Nat.reduceMul, Nat.reduceLT, Nat.reduceLeDiff, Nat.reduceEqDiff, Nat.reduceMod, Nat.reduceDiv, Int.reduceNeg, Int.reduceLE, Int.reduceLT, Int.reduceToNat, Int.reduceEq, Int.reduceNe, ↓reduceIte,  k1, not_true_eq_false, decide_false]
    refine call_of (kn) ?_
    set_option maxRecDepth 100000 in simp (maxSteps := 10000000) only [go_sem, Nat.reduceAdd, Nat.reduceSub, Nat.reduceMul, Nat.reduceLT, Nat.reduceLeDiff, Nat.reduceEqDiff, Nat.reduceMod, Nat.reduceDiv, Int.reduceNeg, Int.reduceLE, Int.reduceLT, Int.reduceToNat, Int.reduceEq, Int.reduceNe, ↓reduceIte,  k2, not_false_eq_true, decide_true]
  rw [k1] at cl
  rw [k2] at kn
  have he : addE d l x = addE2 l x := by rw [addE, if_neg (not_not_intro k1), if_neg (not_not_intro k2)]
  obtain ⟨lb, ps, rf⟩ := x
  by_cases p0 : ps < 0
  · exact add_err (he.trans (addE2_4 (.inl p0))) (by decide) (add_neg d l lb rf ps cl kn h1 h2 p0)
  by_cases p5 : 5 ≤ ps
  · exact add_err (he.trans (addE2_4 (.inr p5))) (by decide) (add_big d l lb rf ps cl kn h1 h2 p5)
  have hr3 := ixS_range l.user rf
  have hix : ixS l.user rf = -1 ∨ ∃ i : Nat, i < l.user.length ∧ ixS l.user rf = (i : Int) := by
    rcases hr3 with q | q
    · exact .inl q
    · exact .inr ⟨(ixS l.user rf).toNat, by omega, by omega⟩
  clear hr3
  have hps : ps = 0 ∨ ps = 1 ∨ ps = 2 ∨ ps = 3 ∨ ps = 4 := by omega
  rcases hps with rfl | rfl | rfl | rfl | rfl
  · by_cases hr : rf = ⟨#[]⟩
    case neg => exact add_err (he.trans (addE2_5 (show ¬ (((0 : Int) < 0) ∨ 5 ≤ ((0 : Int))) by decide) (by show byRefB 0 = decide (rf = ⟨#[]⟩); rw [show byRefB 0 = false from rfl, decide_eq_false hr]))) (by decide) (add0_e5 d l lb rf cl kn h1 h2 hr)
    have hU : leftU l ⟨lb, 0, rf⟩ = l.user := if_neg (fun q => absurd q.1 (show ¬ ((0 : Int) = 4) by decide))
    have hK : addK l ⟨lb, 0, rf⟩ = 0 := if_pos rfl
    by_cases ha1 : (l.system.any fun p => decide (p = lb)) = true
    · exact add_err (he.trans (addE2_13 (show ¬ (((0 : Int) < 0) ∨ 5 ≤ ((0 : Int))) by decide) (fun q => by rw [show byRefB 0 = false from rfl, decide_eq_true hr] at q; cases q) (fun q => absurd q.1 (show ¬ byRefB 0 = true by decide)) (.inl ha1))) (by decide) (add0_e13a d l lb rf cl kn h1 h2 hr ha1)
    by_cases ha2 : (l.user.any fun p => decide (p = lb)) = true
    · exact add_err (he.trans (addE2_13 (show ¬ (((0 : Int) < 0) ∨ 5 ≤ ((0 : Int))) by decide) (fun q => by rw [show byRefB 0 = false from rfl, decide_eq_true hr] at q; cases q) (fun q => absurd q.1 (show ¬ byRefB 0 = true by decide)) (.inr (by rw [hU]; exact ha2)))) (by decide) (add0_e13b d l lb rf cl kn h1 h2 hr (Bool.eq_false_iff.2 ha1) ha2)
    by_cases h8 : ((l.user.length : Nat) : Int) = 8
    · exact add_err (he.trans (addE2_30 (show ¬ (((0 : Int) < 0) ∨ 5 ≤ ((0 : Int))) by decide) (fun q => by rw [show byRefB 0 = false from rfl, decide_eq_true hr] at q; cases q) (fun q => absurd q.1 (show ¬ byRefB 0 = true by decide)) (fun q => q.elim ha1 (by rw [hU]; exact ha2)) (by rw [hU]; omega))) (by decide) (add0_e30 d l lb rf cl kn h1 h2 hr (Bool.eq_false_iff.2 ha1) (Bool.eq_false_iff.2 ha2) h8)
    · exact add_ok (he.trans (addE2_0 (show ¬ (((0 : Int) < 0) ∨ 5 ≤ ((0 : Int))) by decide) (fun q => by rw [show byRefB 0 = false from rfl, decide_eq_true hr] at q; cases q) (fun q => absurd q.1 (show ¬ byRefB 0 = true by decide)) (fun q => q.elim ha1 (by rw [hU]; exact ha2)) (by rw [hU]; omega))) hU hK (add0_ok d l lb rf cl kn h1 h2 hr (Bool.eq_false_iff.2 ha1) (Bool.eq_false_iff.2 ha2) h8)
  · by_cases hr : rf = ⟨#[]⟩
    case neg => exact add_err (he.trans (addE2_5 (show ¬ (((1 : Int) < 0) ∨ 5 ≤ ((1 : Int))) by decide) (by show byRefB 1 = decide (rf = ⟨#[]⟩); rw [show byRefB 1 = false from rfl, decide_eq_false hr]))) (by decide) (add1_e5 d l lb rf cl kn h1 h2 hr)
    have hU : leftU l ⟨lb, 1, rf⟩ = l.user := if_neg (fun q => absurd q.1 (show ¬ ((1 : Int) = 4) by decide))
    have hK : addK l ⟨lb, 1, rf⟩ = l.user.length := (if_neg (show ¬ ((1 : Int) = 0) by decide)).trans ((if_pos rfl).trans (congrArg List.length hU))
    by_cases ha1 : (l.system.any fun p => decide (p = lb)) = true
    · exact add_err (he.trans (addE2_13 (show ¬ (((1 : Int) < 0) ∨ 5 ≤ ((1 : Int))) by decide) (fun q => by rw [show byRefB 1 = false from rfl, decide_eq_true hr] at q; cases q) (fun q => absurd q.1 (show ¬ byRefB 1 = true by decide)) (.inl ha1))) (by decide) (add1_e13a d l lb rf cl kn h1 h2 hr ha1)
    by_cases ha2 : (l.user.any fun p => decide (p = lb)) = true
    · exact add_err (he.trans (addE2_13 (show ¬ (((1 : Int) < 0) ∨ 5 ≤ ((1 : Int))) by decide) (fun q => by rw [show byRefB 1 = false from rfl, decide_eq_true hr] at q; cases q) (fun q => absurd q.1 (show ¬ byRefB 1 = true by decide)) (.inr (by rw [hU]; exact ha2)))) (by decide) (add1_e13b d l lb rf cl kn h1 h2 hr (Bool.eq_false_iff.2 ha1) ha2)
    by_cases h8 : ((l.user.length : Nat) : Int) = 8
    · exact add_err (he.trans (addE2_30 (show ¬ (((1 : Int) < 0) ∨ 5 ≤ ((1 : Int))) by decide) (fun q => by rw [show byRefB 1 = false from rfl, decide_eq_true hr] at q; cases q) (fun q => absurd q.1 (show ¬ byRefB 1 = true by decide)) (fun q => q.elim ha1 (by rw [hU]; exact ha2)) (by rw [hU]; omega))) (by decide) (add1_e30 d l lb rf cl kn h1 h2 hr (Bool.eq_false_iff.2 ha1) (Bool.eq_false_iff.2 ha2) h8)
    · exact add_ok (he.trans (addE2_0 (show ¬ (((1 : Int) < 0) ∨ 5 ≤ ((1 : Int))) by decide) (fun q => by rw [show byRefB 1 = false from rfl, decide_eq_true hr] at q; cases q) (fun q => absurd q.1 (show ¬ byRefB 1 = true by decide)) (fun q => q.elim ha1 (by rw [hU]; exact ha2)) (by rw [hU]; omega))) hU hK (add1_ok d l lb rf cl kn h1 h2 hr (Bool.eq_false_iff.2 ha1) (Bool.eq_false_iff.2 ha2) h8)
  · by_cases hr : rf = ⟨#[]⟩
    case pos =>
      rcases hix with hx | ⟨i, hi, hx⟩
      · exact add_err (he.trans (addE2_5 (show ¬ (((2 : Int) < 0) ∨ 5 ≤ ((2 : Int))) by decide) (by show byRefB 2 = decide (rf = ⟨#[]⟩); rw [show byRefB 2 = true from rfl, decide_eq_true hr]))) (by decide) (add2_e5n d l lb rf cl kn h1 h2 hx hr)
      · exact add_err (he.trans (addE2_5 (show ¬ (((2 : Int) < 0) ∨ 5 ≤ ((2 : Int))) by decide) (by show byRefB 2 = decide (rf = ⟨#[]⟩); rw [show byRefB 2 = true from rfl, decide_eq_true hr]))) (by decide) (add2_e5d d l lb rf cl kn h1 h2 i hi hx hr)
    rcases hix with hx | ⟨i, hi, hx⟩
    · exact add_err (he.trans (addE2_40 (show ¬ (((2 : Int) < 0) ∨ 5 ≤ ((2 : Int))) by decide) (fun q => by rw [show byRefB 2 = true from rfl, decide_eq_false hr] at q; cases q) ⟨rfl, by show ixS l.user rf < 0; rw [hx]; decide⟩)) (by decide) (add2_e40 d l lb rf cl kn h1 h2 hx hr)
    · skip
      have hU : leftU l ⟨lb, 2, rf⟩ = l.user := if_neg (fun q => absurd q.1 (show ¬ ((2 : Int) = 4) by decide))
      have hK : addK l ⟨lb, 2, rf⟩ = (i + 1) := (if_neg (show ¬ ((2 : Int) = 0) by decide)).trans ((if_neg (show ¬ ((2 : Int) = 1) by decide)).trans ((if_pos rfl).trans (by show (ixS l.user rf).toNat + 1 = i + 1; rw [hx, Int.toNat_natCast])))
      by_cases ha1 : (l.system.any fun p => decide (p = lb)) = true
      · exact add_err (he.trans (addE2_13 (show ¬ (((2 : Int) < 0) ∨ 5 ≤ ((2 : Int))) by decide) (fun q => by rw [show byRefB 2 = true from rfl, decide_eq_false hr] at q; cases q) (fun q => by have := q.2; rw [show (⟨lb, 2, rf⟩ : LEntry).ref = rf from rfl, hx] at this; omega) (.inl ha1))) (by decide) (add2_e13a d l lb rf cl kn h1 h2 i hi hx hr ha1)
      by_cases ha2 : (l.user.any fun p => decide (p = lb)) = true
      · exact add_err (he.trans (addE2_13 (show ¬ (((2 : Int) < 0) ∨ 5 ≤ ((2 : Int))) by decide) (fun q => by rw [show byRefB 2 = true from rfl, decide_eq_false hr] at q; cases q) (fun q => by have := q.2; rw [show (⟨lb, 2, rf⟩ : LEntry).ref = rf from rfl, hx] at this; omega) (.inr (by rw [hU]; exact ha2)))) (by decide) (add2_e13b d l lb rf cl kn h1 h2 i hi hx hr (Bool.eq_false_iff.2 ha1) ha2)
      by_cases h8 : ((l.user.length : Nat) : Int) = 8
      · exact add_err (he.trans (addE2_30 (show ¬ (((2 : Int) < 0) ∨ 5 ≤ ((2 : Int))) by decide) (fun q => by rw [show byRefB 2 = true from rfl, decide_eq_false hr] at q; cases q) (fun q => by have := q.2; rw [show (⟨lb, 2, rf⟩ : LEntry).ref = rf from rfl, hx] at this; omega) (fun q => q.elim ha1 (by rw [hU]; exact ha2)) (by rw [hU]; omega))) (by decide) (add2_e30 d l lb rf cl kn h1 h2 i hi hx hr (Bool.eq_false_iff.2 ha1) (Bool.eq_false_iff.2 ha2) h8)
      · exact add_ok (he.trans (addE2_0 (show ¬ (((2 : Int) < 0) ∨ 5 ≤ ((2 : Int))) by decide) (fun q => by rw [show byRefB 2 = true from rfl, decide_eq_false hr] at q; cases q) (fun q => by have := q.2; rw [show (⟨lb, 2, rf⟩ : LEntry).ref = rf from rfl, hx] at this; omega) (fun q => q.elim ha1 (by rw [hU]; exact ha2)) (by rw [hU]; omega))) hU hK (add2_ok d l lb rf cl kn h1 h2 i hi hx hr (Bool.eq_false_iff.2 ha1) (Bool.eq_false_iff.2 ha2) h8)
  · by_cases hr : rf = ⟨#[]⟩
    case pos =>
      rcases hix with hx | ⟨i, hi, hx⟩
      · exact add_err (he.trans (addE2_5 (show ¬ (((3 : Int) < 0) ∨ 5 ≤ ((3 : Int))) by decide) (by show byRefB 3 = decide (rf = ⟨#[]⟩); rw [show byRefB 3 = true from rfl, decide_eq_true hr]))) (by decide) (add3_e5n d l lb rf cl kn h1 h2 hx hr)
      · exact add_err (he.trans (addE2_5 (show ¬ (((3 : Int) < 0) ∨ 5 ≤ ((3 : Int))) by decide) (by show byRefB 3 = decide (rf = ⟨#[]⟩); rw [show byRefB 3 = true from rfl, decide_eq_true hr]))) (by decide) (add3_e5d d l lb rf cl kn h1 h2 i hi hx hr)
    rcases hix with hx | ⟨i, hi, hx⟩
    · exact add_err (he.trans (addE2_40 (show ¬ (((3 : Int) < 0) ∨ 5 ≤ ((3 : Int))) by decide) (fun q => by rw [show byRefB 3 = true from rfl, decide_eq_false hr] at q; cases q) ⟨rfl, by show ixS l.user rf < 0; rw [hx]; decide⟩)) (by decide) (add3_e40 d l lb rf cl kn h1 h2 hx hr)
    · skip
      have hU : leftU l ⟨lb, 3, rf⟩ = l.user := if_neg (fun q => absurd q.1 (show ¬ ((3 : Int) = 4) by decide))
      have hK : addK l ⟨lb, 3, rf⟩ = i := (if_neg (show ¬ ((3 : Int) = 0) by decide)).trans ((if_neg (show ¬ ((3 : Int) = 1) by decide)).trans ((if_neg (show ¬ ((3 : Int) = 2) by decide)).trans (by show (ixS l.user rf).toNat = i; rw [hx, Int.toNat_natCast])))
      by_cases ha1 : (l.system.any fun p => decide (p = lb)) = true
      · exact add_err (he.trans (addE2_13 (show ¬ (((3 : Int) < 0) ∨ 5 ≤ ((3 : Int))) by decide) (fun q => by rw [show byRefB 3 = true from rfl, decide_eq_false hr] at q; cases q) (fun q => by have := q.2; rw [show (⟨lb, 3, rf⟩ : LEntry).ref = rf from rfl, hx] at this; omega) (.inl ha1))) (by decide) (add3_e13a d l lb rf cl kn h1 h2 i hi hx hr ha1)
      by_cases ha2 : (l.user.any fun p => decide (p = lb)) = true
      · exact add_err (he.trans (addE2_13 (show ¬ (((3 : Int) < 0) ∨ 5 ≤ ((3 : Int))) by decide) (fun q => by rw [show byRefB 3 = true from rfl, decide_eq_false hr] at q; cases q) (fun q => by have := q.2; rw [show (⟨lb, 3, rf⟩ : LEntry).ref = rf from rfl, hx] at this; omega) (.inr (by rw [hU]; exact ha2)))) (by decide) (add3_e13b d l lb rf cl kn h1 h2 i hi hx hr (Bool.eq_false_iff.2 ha1) ha2)
      by_cases h8 : ((l.user.length : Nat) : Int) = 8
      · exact add_err (he.trans (addE2_30 (show ¬ (((3 : Int) < 0) ∨ 5 ≤ ((3 : Int))) by decide) (fun q => by rw [show byRefB 3 = true from rfl, decide_eq_false hr] at q; cases q) (fun q => by have := q.2; rw [show (⟨lb, 3, rf⟩ : LEntry).ref = rf from rfl, hx] at this; omega) (fun q => q.elim ha1 (by rw [hU]; exact ha2)) (by rw [hU]; omega))) (by decide) (add3_e30 d l lb rf cl kn h1 h2 i hi hx hr (Bool.eq_false_iff.2 ha1) (Bool.eq_false_iff.2 ha2) h8)
      · exact add_ok (he.trans (addE2_0 (show ¬ (((3 : Int) < 0) ∨ 5 ≤ ((3 : Int))) by decide) (fun q => by rw [show byRefB 3 = true from rfl, decide_eq_false hr] at q; cases q) (fun q => by have := q.2; rw [show (⟨lb, 3, rf⟩ : LEntry).ref = rf from rfl, hx] at this; omega) (fun q => q.elim ha1 (by rw [hU]; exact ha2)) (by rw [hU]; omega))) hU hK (add3_ok d l lb rf cl kn h1 h2 i hi hx hr (Bool.eq_false_iff.2 ha1) (Bool.eq_false_iff.2 ha2) h8)
  · by_cases hr : rf = ⟨#[]⟩
    case pos =>
      rcases hix with hx | ⟨i, hi, hx⟩
      · exact add_err (he.trans (addE2_5 (show ¬ (((4 : Int) < 0) ∨ 5 ≤ ((4 : Int))) by decide) (by show byRefB 4 = decide (rf = ⟨#[]⟩); rw [show byRefB 4 = true from rfl, decide_eq_true hr]))) (by decide) (add4_e5n d l lb rf cl kn h1 h2 hx hr)
      · exact add_err (he.trans (addE2_5 (show ¬ (((4 : Int) < 0) ∨ 5 ≤ ((4 : Int))) by decide) (by show byRefB 4 = decide (rf = ⟨#[]⟩); rw [show byRefB 4 = true from rfl, decide_eq_true hr]))) (by decide) (add4_e5d d l lb rf cl kn h1 h2 i hi hx hr)
    rcases hix with hx | ⟨i, hi, hx⟩
    · exact add_err (he.trans (addE2_40 (show ¬ (((4 : Int) < 0) ∨ 5 ≤ ((4 : Int))) by decide) (fun q => by rw [show byRefB 4 = true from rfl, decide_eq_false hr] at q; cases q) ⟨rfl, by show ixS l.user rf < 0; rw [hx]; decide⟩)) (by decide) (add4_e40 d l lb rf cl kn h1 h2 hx hr)
    · skip
      have hU : leftU l ⟨lb, 4, rf⟩ = List.take i l.user ++ List.drop (i + 1) l.user := (if_pos ⟨rfl, by show 0 ≤ ixS l.user rf; rw [hx]; omega⟩).trans (by show withoutS l.user (ixS l.user rf).toNat = _; rw [hx, Int.toNat_natCast]; rfl)
      have hK : addK l ⟨lb, 4, rf⟩ = i := (if_neg (show ¬ ((4 : Int) = 0) by decide)).trans ((if_neg (show ¬ ((4 : Int) = 1) by decide)).trans ((if_neg (show ¬ ((4 : Int) = 2) by decide)).trans (by show (ixS l.user rf).toNat = i; rw [hx, Int.toNat_natCast])))
      by_cases ha1 : (l.system.any fun p => decide (p = lb)) = true
      · exact add_err (he.trans (addE2_13 (show ¬ (((4 : Int) < 0) ∨ 5 ≤ ((4 : Int))) by decide) (fun q => by rw [show byRefB 4 = true from rfl, decide_eq_false hr] at q; cases q) (fun q => by have := q.2; rw [show (⟨lb, 4, rf⟩ : LEntry).ref = rf from rfl, hx] at this; omega) (.inl ha1))) (by decide) (add4_e13a d l lb rf cl kn h1 h2 i hi hx hr ha1)
      by_cases ha2 : ((List.take i l.user ++ List.drop (i + 1) l.user).any fun p => decide (p = lb)) = true
      · exact add_err (he.trans (addE2_13 (show ¬ (((4 : Int) < 0) ∨ 5 ≤ ((4 : Int))) by decide) (fun q => by rw [show byRefB 4 = true from rfl, decide_eq_false hr] at q; cases q) (fun q => by have := q.2; rw [show (⟨lb, 4, rf⟩ : LEntry).ref = rf from rfl, hx] at this; omega) (.inr (by rw [hU]; exact ha2)))) (by decide) (add4_e13b d l lb rf cl kn h1 h2 i hi hx hr (Bool.eq_false_iff.2 ha1) ha2)
      by_cases h8 : (((List.take i l.user ++ List.drop (i + 1) l.user).length : Nat) : Int) = 8
      · exact add_err (he.trans (addE2_30 (show ¬ (((4 : Int) < 0) ∨ 5 ≤ ((4 : Int))) by decide) (fun q => by rw [show byRefB 4 = true from rfl, decide_eq_false hr] at q; cases q) (fun q => by have := q.2; rw [show (⟨lb, 4, rf⟩ : LEntry).ref = rf from rfl, hx] at this; omega) (fun q => q.elim ha1 (by rw [hU]; exact ha2)) (by rw [hU]; omega))) (by decide) (add4_e30 d l lb rf cl kn h1 h2 i hi hx hr (Bool.eq_false_iff.2 ha1) (Bool.eq_false_iff.2 ha2) h8)
      · exact add_ok (he.trans (addE2_0 (show ¬ (((4 : Int) < 0) ∨ 5 ≤ ((4 : Int))) by decide) (fun q => by rw [show byRefB 4 = true from rfl, decide_eq_false hr] at q; cases q) (fun q => by have := q.2; rw [show (⟨lb, 4, rf⟩ : LEntry).ref = rf from rfl, hx] at this; omega) (fun q => q.elim ha1 (by rw [hU]; exact ha2)) (by rw [hU]; omega))) hU hK (add4_ok d l lb rf cl kn h1 h2 i hi hx hr (Bool.eq_false_iff.2 ha1) (Bool.eq_false_iff.2 ha2) h8)
end Go.Proofs.YtppjmigiogddpaaGreat.C08
