/- Chapter 9: Added put together. -/
import Derived.Test.YtppjmigiogddpaaP15
namespace Go.Proofs.Ytppjmigiogddpaa.C08
open Go Go.Proofs Go.Proofs.Ytppjmigiogddpaa.Ab
set_option linter.unusedSimpArgs false
set_option linter.unusedVariables false
attribute [local congr] ite_ctx

theorem rad_err {d : Dir} {l : LList} {x : LEntry} {E : Int} (hE : addE d l x = E) (h0 : ¬ E = 0) (k : Ans Try.prog 41 [.agg (encDir d), .agg (encLL l), .agg (encLE x)] (.tup [.agg [.nils, .str ⟨#[]⟩, .nils], .int .i64 E])) :
    Ans Try.prog 41 [.agg (encDir d), .agg (encLL l), .agg (encLE x)] (.tup [.agg (encLL (addP d l x)), .int .i64 (addE d l x)]) := by
  rw [addP, if_neg (by rw [hE]; exact h0), hE]
  exact Ans.le k (le_zeroT E) rfl
theorem rad_ok {d : Dir} {l : LList} {x : LEntry} {U R : List ByteArray} {K : Nat} (hE : addE d l x = 0) (hU : leftU l x = U) (hK : addK l x = K) (hR : insS U K x.lib = R) (k : Ans Try.prog 41 [.agg (encDir d), .agg (encLL l), .agg (encLE x)] (.tup [.agg [.sl (l.system.map encStr), .str l.current, .sl (R.map encStr)], .int .i64 0])) :
    Ans Try.prog 41 [.agg (encDir d), .agg (encLL l), .agg (encLE x)] (.tup [.agg (encLL (addP d l x)), .int .i64 (addE d l x)]) := by
  rw [addP, if_pos hE, hE, hU, hK, hR]
  exact k

set_option maxHeartbeats 8000000 in
theorem Added_good (d : Dir) (l : LList) (x : LEntry) (h : d.objects.length ≤ 1000000) (h1 : l.system.length ≤ 1000) (h2 : l.user.length ≤ 1000) (k1 : (listE d l).2 = 0) :
    Ans Try.prog 41 [.agg (encDir d), .agg (encLL l), .agg (encLE x)] (.tup [.agg (encLL (addP d l x)), .int .i64 (addE d l x)]) := by
  have rl := RefLib_good d x.lib h
  refine Classical.byCases (fun k2 : libE d.objects x.lib = 0 => ?_) fun k2 => ?_
  case refine_2 =>
    refine rad_err (E := libE d.objects x.lib) (by rw [addE, if_neg (not_not_intro k1), if_pos k2]) k2 ?_
    refine good_run [] mixed Try.func41 rfl Try.ntmps41 (rs := [.cell 6 41, .tmp 7]) rfl (by decide +kernel) (by kernel_rfl) rfl ?_
    rw [startE_eq 124 _ _ _ rfl rfl]
    set_option maxRecDepth 100000 in simp (maxSteps := 10000000) only [go_sem, Nat.reduceAdd, Nat.reduceSub, Nat.reduceMul, Nat.reduceLT, Nat.reduceLeDiff, Nat.reduceEqDiff, Nat.reduceMod, Nat.reduceDiv, Int.reduceNeg, Int.reduceLE, Int.reduceLT, Int.reduceToNat, Int.reduceEq, Int.reduceNe, ↓reduceIte]
    refine call_of (rl) ?_
    set_option maxRecDepth 100000 in simp (maxSteps := 10000000) only [go_sem, Nat.reduceAdd, Nat.reduceSub, Nat.reduceMul, Nat.reduceLT, Nat.reduceLeDiff, Nat.reduceEqDiff, Nat.reduceMod, Nat.reduceDiv, Int.reduceNeg, Int.reduceLE, Int.reduceLT, Int.reduceToNat, Int.reduceEq, Int.reduceNe, ↓reduceIte,  k2, not_false_eq_true, decide_true]
  rw [k2] at rl
  have he : addE d l x = addE2 l x := by rw [addE, if_neg (not_not_intro k1), if_neg (not_not_intro k2)]
  have once := fun i j => user_once (i := i) (j := j) k1
  have hul := user_len k1
  obtain ⟨lb, ps, rf⟩ := x
  by_cases p0 : ps < 0
  · exact rad_err (he.trans (addE2_4 (.inl p0))) (by decide) (rad_e4 d l lb rf ps rl h1 h2 (by rw [inB, decide_eq_false_iff_not]; omega))
  by_cases p5 : 5 ≤ ps
  · exact rad_err (he.trans (addE2_4 (.inr p5))) (by decide) (rad_e4 d l lb rf ps rl h1 h2 (by rw [inB, decide_eq_false_iff_not]; omega))
  have hix : ixS l.user rf = -1 ∨ ∃ i : Nat, i < l.user.length ∧ ixS l.user rf = (i : Int) := by
    rcases ixS_range l.user rf with q | q
    · exact .inl q
    · exact .inr ⟨(ixS l.user rf).toNat, by omega, by omega⟩
  have az := ixS_none l.system lb
  have ay := ixS_none l.user lb
  have hps : ps = 0 ∨ ps = 1 ∨ ps = 2 ∨ ps = 3 ∨ ps = 4 := by omega
  rcases hps with rfl | rfl | rfl | rfl | rfl
  · by_cases hr : rf = ⟨#[]⟩
    case neg => exact rad_err (he.trans (addE2_5 (show ¬ (((0 : Int) < 0) ∨ 5 ≤ ((0 : Int))) by decide) (by show byRefB 0 = decide (rf = ⟨#[]⟩); rw [show byRefB 0 = false from rfl, decide_eq_false hr]))) (by decide) (rad0_e5 d l lb rf rl h1 h2 hr)
    have hU : leftU l ⟨lb, 0, rf⟩ = l.user := if_neg (fun q => absurd q.1 (show ¬ ((0 : Int) = 4) by decide))
    have hK : addK l ⟨lb, 0, rf⟩ = 0 := if_pos rfl
    by_cases hz : ixS l.system lb = -1
    case neg => exact rad_err (he.trans (addE2_13 (show ¬ (((0 : Int) < 0) ∨ 5 ≤ ((0 : Int))) by decide) (fun q => by rw [show byRefB 0 = false from rfl, decide_eq_true hr] at q; cases q) (fun q => absurd q.1 (show ¬ byRefB 0 = true by decide)) (.inl (by rw [← Bool.not_eq_false]; exact fun q => hz (az.2 q))))) (by decide) (rad0_e13a d l lb rf rl h1 h2 hr hz)
    have ha1 : ¬ (l.system.any fun p => decide (p = lb)) = true := by rw [az.1 hz]; decide
    by_cases hy : ixS l.user lb = -1
    case neg => exact rad_err (he.trans (addE2_13 (show ¬ (((0 : Int) < 0) ∨ 5 ≤ ((0 : Int))) by decide) (fun q => by rw [show byRefB 0 = false from rfl, decide_eq_true hr] at q; cases q) (fun q => absurd q.1 (show ¬ byRefB 0 = true by decide)) (.inr (by rw [hU, ← Bool.not_eq_false]; exact fun q => hy (ay.2 q))))) (by decide) (rad0_e13b d l lb rf rl h1 h2 hr hz hy)
    have ha2 : ¬ (l.user.any fun p => decide (p = lb)) = true := by rw [ay.1 hy]; decide
    by_cases h8 : (l.user.length : Int) = 8
    · exact rad_err (he.trans (addE2_30 (show ¬ (((0 : Int) < 0) ∨ 5 ≤ ((0 : Int))) by decide) (fun q => by rw [show byRefB 0 = false from rfl, decide_eq_true hr] at q; cases q) (fun q => absurd q.1 (show ¬ byRefB 0 = true by decide)) (fun q => q.elim ha1 (by rw [hU]; exact ha2)) (by rw [hU]; omega))) (by decide) (rad0_e30 d l lb rf rl h1 h2 hr hz hy h8)
    · exact rad_ok (he.trans (addE2_0 (show ¬ (((0 : Int) < 0) ∨ 5 ≤ ((0 : Int))) by decide) (fun q => by rw [show byRefB 0 = false from rfl, decide_eq_true hr] at q; cases q) (fun q => absurd q.1 (show ¬ byRefB 0 = true by decide)) (fun q => q.elim ha1 (by rw [hU]; exact ha2)) (by rw [hU]; omega))) hU hK rfl (rad0_ok d l lb rf rl h1 h2 hr hz hy h8)
  · by_cases hr : rf = ⟨#[]⟩
    case neg => exact rad_err (he.trans (addE2_5 (show ¬ (((1 : Int) < 0) ∨ 5 ≤ ((1 : Int))) by decide) (by show byRefB 1 = decide (rf = ⟨#[]⟩); rw [show byRefB 1 = false from rfl, decide_eq_false hr]))) (by decide) (rad1_e5 d l lb rf rl h1 h2 hr)
    have hU : leftU l ⟨lb, 1, rf⟩ = l.user := if_neg (fun q => absurd q.1 (show ¬ ((1 : Int) = 4) by decide))
    have hK : addK l ⟨lb, 1, rf⟩ = l.user.length := (if_neg (show ¬ ((1 : Int) = 0) by decide)).trans ((if_pos rfl).trans (congrArg List.length hU))
    by_cases hz : ixS l.system lb = -1
    case neg => exact rad_err (he.trans (addE2_13 (show ¬ (((1 : Int) < 0) ∨ 5 ≤ ((1 : Int))) by decide) (fun q => by rw [show byRefB 1 = false from rfl, decide_eq_true hr] at q; cases q) (fun q => absurd q.1 (show ¬ byRefB 1 = true by decide)) (.inl (by rw [← Bool.not_eq_false]; exact fun q => hz (az.2 q))))) (by decide) (rad1_e13a d l lb rf rl h1 h2 hr hz)
    have ha1 : ¬ (l.system.any fun p => decide (p = lb)) = true := by rw [az.1 hz]; decide
    by_cases hy : ixS l.user lb = -1
    case neg => exact rad_err (he.trans (addE2_13 (show ¬ (((1 : Int) < 0) ∨ 5 ≤ ((1 : Int))) by decide) (fun q => by rw [show byRefB 1 = false from rfl, decide_eq_true hr] at q; cases q) (fun q => absurd q.1 (show ¬ byRefB 1 = true by decide)) (.inr (by rw [hU, ← Bool.not_eq_false]; exact fun q => hy (ay.2 q))))) (by decide) (rad1_e13b d l lb rf rl h1 h2 hr hz hy)
    have ha2 : ¬ (l.user.any fun p => decide (p = lb)) = true := by rw [ay.1 hy]; decide
    by_cases h8 : (l.user.length : Int) = 8
    · exact rad_err (he.trans (addE2_30 (show ¬ (((1 : Int) < 0) ∨ 5 ≤ ((1 : Int))) by decide) (fun q => by rw [show byRefB 1 = false from rfl, decide_eq_true hr] at q; cases q) (fun q => absurd q.1 (show ¬ byRefB 1 = true by decide)) (fun q => q.elim ha1 (by rw [hU]; exact ha2)) (by rw [hU]; omega))) (by decide) (rad1_e30 d l lb rf rl h1 h2 hr hz hy h8)
    · exact rad_ok (he.trans (addE2_0 (show ¬ (((1 : Int) < 0) ∨ 5 ≤ ((1 : Int))) by decide) (fun q => by rw [show byRefB 1 = false from rfl, decide_eq_true hr] at q; cases q) (fun q => absurd q.1 (show ¬ byRefB 1 = true by decide)) (fun q => q.elim ha1 (by rw [hU]; exact ha2)) (by rw [hU]; omega))) hU hK rfl (rad1_ok d l lb rf rl h1 h2 hr hz hy h8)
  · by_cases hr : rf = ⟨#[]⟩
    case pos => exact rad_err (he.trans (addE2_5 (show ¬ (((2 : Int) < 0) ∨ 5 ≤ ((2 : Int))) by decide) (by show byRefB 2 = decide (rf = ⟨#[]⟩); rw [show byRefB 2 = true from rfl, decide_eq_true hr]))) (by decide) (rad2_e5 d l lb rf rl h1 h2 hr)
    rcases hix with hx | ⟨i, hi, hx⟩
    · exact rad_err (he.trans (addE2_40 (show ¬ (((2 : Int) < 0) ∨ 5 ≤ ((2 : Int))) by decide) (fun q => by rw [show byRefB 2 = true from rfl, decide_eq_false hr] at q; cases q) ⟨rfl, by show ixS l.user rf < 0; rw [hx]; decide⟩)) (by decide) (rad2_e40 d l lb rf rl h1 h2 hr hx)
    have hU : leftU l ⟨lb, 2, rf⟩ = l.user := if_neg (fun q => absurd q.1 (show ¬ ((2 : Int) = 4) by decide))
    have hK : addK l ⟨lb, 2, rf⟩ = (i + 1) := (if_neg (show ¬ ((2 : Int) = 0) by decide)).trans ((if_neg (show ¬ ((2 : Int) = 1) by decide)).trans ((if_pos rfl).trans (by show (ixS l.user rf).toNat + 1 = i + 1; rw [hx, Int.toNat_natCast])))
    by_cases hz : ixS l.system lb = -1
    case neg => exact rad_err (he.trans (addE2_13 (show ¬ (((2 : Int) < 0) ∨ 5 ≤ ((2 : Int))) by decide) (fun q => by rw [show byRefB 2 = true from rfl, decide_eq_false hr] at q; cases q) (fun q => by have := q.2; rw [show (⟨lb, 2, rf⟩ : LEntry).ref = rf from rfl, hx] at this; omega) (.inl (by rw [← Bool.not_eq_false]; exact fun q => hz (az.2 q))))) (by decide) (rad2_e13a d l lb rf rl h1 h2 hr i hi hx hz)
    have ha1 : ¬ (l.system.any fun p => decide (p = lb)) = true := by rw [az.1 hz]; decide
    by_cases hy : ixS l.user lb = -1
    case neg => exact rad_err (he.trans (addE2_13 (show ¬ (((2 : Int) < 0) ∨ 5 ≤ ((2 : Int))) by decide) (fun q => by rw [show byRefB 2 = true from rfl, decide_eq_false hr] at q; cases q) (fun q => by have := q.2; rw [show (⟨lb, 2, rf⟩ : LEntry).ref = rf from rfl, hx] at this; omega) (.inr (by rw [hU, ← Bool.not_eq_false]; exact fun q => hy (ay.2 q))))) (by decide) (rad2_e13b d l lb rf rl h1 h2 hr i hi hx hz hy)
    have ha2 : ¬ (l.user.any fun p => decide (p = lb)) = true := by rw [ay.1 hy]; decide
    by_cases h8 : (l.user.length : Int) = 8
    · exact rad_err (he.trans (addE2_30 (show ¬ (((2 : Int) < 0) ∨ 5 ≤ ((2 : Int))) by decide) (fun q => by rw [show byRefB 2 = true from rfl, decide_eq_false hr] at q; cases q) (fun q => by have := q.2; rw [show (⟨lb, 2, rf⟩ : LEntry).ref = rf from rfl, hx] at this; omega) (fun q => q.elim ha1 (by rw [hU]; exact ha2)) (by rw [hU]; omega))) (by decide) (rad2_e30 d l lb rf rl h1 h2 hr i hi hx hz hy h8)
    · exact rad_ok (he.trans (addE2_0 (show ¬ (((2 : Int) < 0) ∨ 5 ≤ ((2 : Int))) by decide) (fun q => by rw [show byRefB 2 = true from rfl, decide_eq_false hr] at q; cases q) (fun q => by have := q.2; rw [show (⟨lb, 2, rf⟩ : LEntry).ref = rf from rfl, hx] at this; omega) (fun q => q.elim ha1 (by rw [hU]; exact ha2)) (by rw [hU]; omega))) hU hK rfl (rad2_ok d l lb rf rl h1 h2 hr i hi hx hz hy h8)
  · by_cases hr : rf = ⟨#[]⟩
    case pos => exact rad_err (he.trans (addE2_5 (show ¬ (((3 : Int) < 0) ∨ 5 ≤ ((3 : Int))) by decide) (by show byRefB 3 = decide (rf = ⟨#[]⟩); rw [show byRefB 3 = true from rfl, decide_eq_true hr]))) (by decide) (rad3_e5 d l lb rf rl h1 h2 hr)
    rcases hix with hx | ⟨i, hi, hx⟩
    · exact rad_err (he.trans (addE2_40 (show ¬ (((3 : Int) < 0) ∨ 5 ≤ ((3 : Int))) by decide) (fun q => by rw [show byRefB 3 = true from rfl, decide_eq_false hr] at q; cases q) ⟨rfl, by show ixS l.user rf < 0; rw [hx]; decide⟩)) (by decide) (rad3_e40 d l lb rf rl h1 h2 hr hx)
    have hU : leftU l ⟨lb, 3, rf⟩ = l.user := if_neg (fun q => absurd q.1 (show ¬ ((3 : Int) = 4) by decide))
    have hK : addK l ⟨lb, 3, rf⟩ = i := (if_neg (show ¬ ((3 : Int) = 0) by decide)).trans ((if_neg (show ¬ ((3 : Int) = 1) by decide)).trans ((if_neg (show ¬ ((3 : Int) = 2) by decide)).trans (by show (ixS l.user rf).toNat = i; rw [hx, Int.toNat_natCast])))
    by_cases hz : ixS l.system lb = -1
    case neg => exact rad_err (he.trans (addE2_13 (show ¬ (((3 : Int) < 0) ∨ 5 ≤ ((3 : Int))) by decide) (fun q => by rw [show byRefB 3 = true from rfl, decide_eq_false hr] at q; cases q) (fun q => by have := q.2; rw [show (⟨lb, 3, rf⟩ : LEntry).ref = rf from rfl, hx] at this; omega) (.inl (by rw [← Bool.not_eq_false]; exact fun q => hz (az.2 q))))) (by decide) (rad3_e13a d l lb rf rl h1 h2 hr i hi hx hz)
    have ha1 : ¬ (l.system.any fun p => decide (p = lb)) = true := by rw [az.1 hz]; decide
    by_cases hy : ixS l.user lb = -1
    case neg => exact rad_err (he.trans (addE2_13 (show ¬ (((3 : Int) < 0) ∨ 5 ≤ ((3 : Int))) by decide) (fun q => by rw [show byRefB 3 = true from rfl, decide_eq_false hr] at q; cases q) (fun q => by have := q.2; rw [show (⟨lb, 3, rf⟩ : LEntry).ref = rf from rfl, hx] at this; omega) (.inr (by rw [hU, ← Bool.not_eq_false]; exact fun q => hy (ay.2 q))))) (by decide) (rad3_e13b d l lb rf rl h1 h2 hr i hi hx hz hy)
    have ha2 : ¬ (l.user.any fun p => decide (p = lb)) = true := by rw [ay.1 hy]; decide
    by_cases h8 : (l.user.length : Int) = 8
    · exact rad_err (he.trans (addE2_30 (show ¬ (((3 : Int) < 0) ∨ 5 ≤ ((3 : Int))) by decide) (fun q => by rw [show byRefB 3 = true from rfl, decide_eq_false hr] at q; cases q) (fun q => by have := q.2; rw [show (⟨lb, 3, rf⟩ : LEntry).ref = rf from rfl, hx] at this; omega) (fun q => q.elim ha1 (by rw [hU]; exact ha2)) (by rw [hU]; omega))) (by decide) (rad3_e30 d l lb rf rl h1 h2 hr i hi hx hz hy h8)
    · exact rad_ok (he.trans (addE2_0 (show ¬ (((3 : Int) < 0) ∨ 5 ≤ ((3 : Int))) by decide) (fun q => by rw [show byRefB 3 = true from rfl, decide_eq_false hr] at q; cases q) (fun q => by have := q.2; rw [show (⟨lb, 3, rf⟩ : LEntry).ref = rf from rfl, hx] at this; omega) (fun q => q.elim ha1 (by rw [hU]; exact ha2)) (by rw [hU]; omega))) hU hK rfl (rad3_ok d l lb rf rl h1 h2 hr i hi hx hz hy h8)
  · by_cases hr : rf = ⟨#[]⟩
    case pos => exact rad_err (he.trans (addE2_5 (show ¬ (((4 : Int) < 0) ∨ 5 ≤ ((4 : Int))) by decide) (by show byRefB 4 = decide (rf = ⟨#[]⟩); rw [show byRefB 4 = true from rfl, decide_eq_true hr]))) (by decide) (rad4_e5 d l lb rf rl h1 h2 hr)
    rcases hix with hx | ⟨i, hi, hx⟩
    · exact rad_err (he.trans (addE2_40 (show ¬ (((4 : Int) < 0) ∨ 5 ≤ ((4 : Int))) by decide) (fun q => by rw [show byRefB 4 = true from rfl, decide_eq_false hr] at q; cases q) ⟨rfl, by show ixS l.user rf < 0; rw [hx]; decide⟩)) (by decide) (rad4_e40 d l lb rf rl h1 h2 hr hx)
    have hU : leftU l ⟨lb, 4, rf⟩ = List.take i l.user ++ List.drop (i + 1) l.user := (if_pos ⟨rfl, by show 0 ≤ ixS l.user rf; rw [hx]; omega⟩).trans (by show withoutS l.user (ixS l.user rf).toNat = _; rw [hx, Int.toNat_natCast]; rfl)
    have hK : addK l ⟨lb, 4, rf⟩ = i := (if_neg (show ¬ ((4 : Int) = 0) by decide)).trans ((if_neg (show ¬ ((4 : Int) = 1) by decide)).trans ((if_neg (show ¬ ((4 : Int) = 2) by decide)).trans (by show (ixS l.user rf).toNat = i; rw [hx, Int.toNat_natCast])))
    by_cases hz : ixS l.system lb = -1
    case neg => exact rad_err (he.trans (addE2_13 (show ¬ (((4 : Int) < 0) ∨ 5 ≤ ((4 : Int))) by decide) (fun q => by rw [show byRefB 4 = true from rfl, decide_eq_false hr] at q; cases q) (fun q => by have := q.2; rw [show (⟨lb, 4, rf⟩ : LEntry).ref = rf from rfl, hx] at this; omega) (.inl (by rw [← Bool.not_eq_false]; exact fun q => hz (az.2 q))))) (by decide) (rad4_e13a d l lb rf rl h1 h2 hr i hi hx hz)
    have ha1 : ¬ (l.system.any fun p => decide (p = lb)) = true := by rw [az.1 hz]; decide
    have hl := leave_any once hi (s := lb)
    have hlen : (List.take i l.user ++ List.drop (i + 1) l.user).length + 1 = l.user.length := by rw [List.length_append, List.length_take, List.length_drop]; omega
    by_cases hy1 : ixS l.user lb = -1
    · have hy := hy1
      have ha2 := fun q => (hl.1 q).1 hy
      exact rad_ok (he.trans (addE2_0 (show ¬ (((4 : Int) < 0) ∨ 5 ≤ ((4 : Int))) by decide) (fun q => by rw [show byRefB 4 = true from rfl, decide_eq_false hr] at q; cases q) (fun q => by have := q.2; rw [show (⟨lb, 4, rf⟩ : LEntry).ref = rf from rfl, hx] at this; omega) (fun q => q.elim ha1 (by rw [hU]; exact ha2)) (by rw [hU]; omega))) hU hK (ins_set hi) (rad4_ok1 d l lb rf rl h1 h2 hr i hi hx hz hy)
    by_cases hy : ixS l.user lb = (i : Int)
    · have ha2 := fun q => (hl.1 q).2 hy
      exact rad_ok (he.trans (addE2_0 (show ¬ (((4 : Int) < 0) ∨ 5 ≤ ((4 : Int))) by decide) (fun q => by rw [show byRefB 4 = true from rfl, decide_eq_false hr] at q; cases q) (fun q => by have := q.2; rw [show (⟨lb, 4, rf⟩ : LEntry).ref = rf from rfl, hx] at this; omega) (fun q => q.elim ha1 (by rw [hU]; exact ha2)) (by rw [hU]; omega))) hU hK (ins_set hi) (rad4_ok2 d l lb rf rl h1 h2 hr i hi hx hz hy)
    exact rad_err (he.trans (addE2_13 (show ¬ (((4 : Int) < 0) ∨ 5 ≤ ((4 : Int))) by decide) (fun q => by rw [show byRefB 4 = true from rfl, decide_eq_false hr] at q; cases q) (fun q => by have := q.2; rw [show (⟨lb, 4, rf⟩ : LEntry).ref = rf from rfl, hx] at this; omega) (.inr (by rw [hU]; exact hl.2 ⟨hy1, hy⟩)))) (by decide) (rad4_e13b d l lb rf rl h1 h2 hr i hi hx hz hy1 hy)
end Go.Proofs.Ytppjmigiogddpaa.C08
