/- Chapter 12: the first example. -/
import Derived.Test.YtbhgehhmjpipiaaGreatE12
namespace Go.Proofs.YtbhgehhmjpipiaaGreat.C12
open Go Go.Proofs Go.Proofs.YtbhgehhmjpipiaaGreat.Ab Go.Proofs.YtbhgehhmjpipiaaGreat.C10
set_option maxRecDepth 100000
set_option linter.unusedSimpArgs false
set_option linter.unusedVariables false
attribute [local congr] ite_ctx
def bANN : ByteArray := ⟨#[65, 78, 78]⟩
def bBOB : ByteArray := ⟨#[66, 79, 66]⟩
def bOWN : ByteArray := ⟨#[79, 87, 78]⟩
def bAPP : ByteArray := ⟨#[65, 80, 80]⟩
/-- The case of the first example. -/
def Two12 : Case := ⟨⟨[⟨bANN, [], 0⟩, ⟨bBOB, [], 0⟩, ⟨bOWN, [], 0⟩], [], [⟨⟨bAPP, ⟨#[70]⟩, 4⟩, bOWN, [⟨bANN, 1023⟩], ⟨#[]⟩, 0, false⟩, ⟨⟨bAPP, ⟨#[83]⟩, 20⟩, bOWN, [⟨bANN, 160⟩, ⟨bBOB, 32⟩], ⟨#[]⟩, 0, false⟩]⟩, [bANN, bBOB]⟩
def twoRaw : AV := .agg [.sl [[.str bANN, .nils, .int .i64 0], [.str bBOB, .nils, .int .i64 0], [.str bOWN, .nils, .int .i64 0]], .nils,
  .sl [[.str bAPP, .str ⟨#[70]⟩, .int .i64 4, .str bOWN, .sl [[.str bANN, .int .i64 1023]], .str ⟨#[]⟩, .int .i64 0, .bool false], [.str bAPP, .str ⟨#[83]⟩, .int .i64 20, .str bOWN, .sl [[.str bANN, .int .i64 160], [.str bBOB, .int .i64 32]], .str ⟨#[]⟩, .int .i64 0, .bool false]], .sl [[.str bANN], [.str bBOB]]]
theorem le_prof (a : ByteArray) : CellsLe [.str a, .nils, .int .i64 0] [.str a, .sl [], .int .i64 0] := .cons (.refl _) (.cons .nils (.refl _))
theorem two_le : AVle twoRaw (.agg (encCase Two12)) :=
  .agg' (.cons (.sl' (.cons (le_prof _) (.cons (le_prof _) (.cons (le_prof _) .nil)))) (.cons .nils (.refl _)))
theorem Two_good : Ans Tryz.prog 37 [] (.agg (encCase Two12)) := by
  refine Ans.le (r := twoRaw) ?_ two_le rfl
  unfold twoRaw bANN bBOB bOWN bAPP
  refine good_run [] mixed Tryz.func37 rfl Tryz.ntmps37 (rs := [.cell 0 29]) rfl (by decide +kernel) (by kernel_rfl) rfl ?_
  rw [startE_eq 18 _ _ _ rfl rfl]
  simp only [go_sem, seval]
theorem two_few : few12 Two12 = true := by decide +kernel
theorem two_err : (caseE Two12).2 = 0 := by decide +kernel
theorem two_right : Right Two12 := right_of (few12_fit two_few).1 two_err
theorem two_drv : Drv (cc Two12) ⟨1, 0, 1, 1023⟩ := by
  have a0 : auI Two12 0 0 = 1023 := by decide +kernel
  have a1 : auI Two12 0 1 = 160 := by decide +kernel
  have a2 : auI Two12 1 1 = 32 := by decide +kernel
  have hJ : (cc Two12).J = 2 := rfl
  have hO : (cc Two12).O = 2 := rfl
  have x := Drv.seed (C := cc Two12) 0 0 (by rw [hJ]; decide) (by rw [hO]; decide) (by rw [show (cc Two12).au 0 0 = 1023 from a0]; decide)
  have w := Drv.seed (C := cc Two12) 0 1 (by rw [hJ]; decide) (by rw [hO]; decide) (by rw [show (cc Two12).au 0 1 = 160 from a1]; decide)
  have r := Drv.seed (C := cc Two12) 1 1 (by rw [hJ]; decide) (by rw [hO]; decide) (by rw [show (cc Two12).au 1 1 = 32 from a2]; decide)
  rw [show (cc Two12).au 0 0 = 1023 from a0] at x
  rw [show (cc Two12).au 0 1 = 160 from a1] at w
  rw [show (cc Two12).au 1 1 = 32 from a2] at r
  exact Drv.pass _ _ _ 1 (by rw [hJ]; decide) x w r rfl rfl (by decide) rfl (by decide +kernel) (by decide +kernel)
theorem two_in : (⟨1, 0, 1, 1023⟩ : Cap) ∈ rClosure (cc Two12) := by
  have R := rClosure_done two_right.cfit
  exact (rClosed_of (cc Two12) R.seed R.stop).all (cc Two12) two_drv
theorem wIx_mem {L : List Der} {x : Cap} (h : x ∈ L.map Der.cap) : 0 ≤ wIx L x ∧ (wIx L x).toNat < L.length ∧ (nth L (wIx L x).toNat).cap = x := by
  have hany := findIx_any (fun y : Der => decide (y.cap = x)) L 0
  have ha : L.any (fun y : Der => decide (y.cap = x)) = true := by
    obtain ⟨y, hy, e⟩ := List.mem_map.1 h
    exact List.any_eq_true.2 ⟨y, hy, decide_eq_true e⟩
  rw [ha] at hany
  have h0 : 0 ≤ wIx L x := by unfold wIx; simpa using hany
  refine ⟨h0, ?_⟩
  have key : ∀ (l : List Der) (i : Nat), 0 ≤ findIx (fun y : Der => decide (y.cap = x)) l i → ∃ k, k < l.length ∧ findIx (fun y : Der => decide (y.cap = x)) l i = ((i + k : Nat) : Int) ∧ (nth l k).cap = x := by
    intro l
    induction l with
    | nil => intro i hi; unfold findIx at hi; omega
    | cons y l ih =>
      intro i hi
      unfold findIx at hi ⊢
      by_cases q : y.cap = x
      · rw [if_pos (decide_eq_true q)]; exact ⟨0, by simp, by simp, q⟩
      · rw [if_neg (by rw [decide_eq_false q]; decide)] at hi ⊢
        obtain ⟨k, k1, k2, k3⟩ := ih (i + 1) hi
        exact ⟨k + 1, by simpa using k1, by rw [k2]; congr 1; omega, k3⟩
  obtain ⟨k, k1, k2, k3⟩ := key L 0 h0
  have e : (wIx L x).toNat = k := by unfold wIx; rw [k2]; simp
  rw [e]; exact ⟨k1, k3⟩
theorem opsN_pos (L : List Der) (n : Nat) : 0 < (opsN L (n + 1)).length := by
  unfold opsN wOps
  rw [List.length_append]
  split
  · simp
  · split <;> simp
set_option maxHeartbeats 4000000 in
theorem awake_good : Ans Tryz.prog 10 [] (.bool true) := by
  have hC := Closure_good two_right two_err
  have hW := Witness_good two_right two_err ⟨1, 0, 1, 1023⟩
  have hm := two_in
  have hH := Has_good (rClosure (cc Two12)) ⟨1, 0, 1, 1023⟩ (by have := two_right.cfit.rlen (rClosure_done two_right.cfit).ok; omega)
  rw [decide_eq_true hm] at hH
  have hx := wIx_mem ((rClosure_mem two_right _).1 hm)
  rw [if_pos hx.1] at hW
  have hp := opsN_pos (derive (cc Two12)) (wIx (derive (cc Two12)) ⟨1, 0, 1, 1023⟩).toNat
  generalize opsN (derive (cc Two12)) ((wIx (derive (cc Two12)) ⟨1, 0, 1, 1023⟩).toNat + 1) = ops at hW hp
  generalize rClosure (cc Two12) = R at hC hH
  have hpt : ((ops.length : Int) > 0) = True := eq_true (by omega)
  have hT := Two_good
  generalize Two12 = T at hC hW hT
  replace hW : Ans Tryz.prog 17 [.agg (encCase T), .agg [.int .i64 1, .int .i64 0, .int .i64 1, .int .i64 1023]] (.tup [.sl (ops.map encCOp), .int .i64 0]) := hW
  replace hH : Ans Tryz.prog 18 [.sl (R.map encCap), .agg [.int .i64 1, .int .i64 0, .int .i64 1, .int .i64 1023]] (.bool true) := hH
  refine good_run [] mixed Tryz.func10 rfl Tryz.ntmps10 (rs := [.tmp 0]) rfl (by decide +kernel) (by kernel_rfl) rfl ?_
  rw [startE_eq 34 _ _ _ rfl rfl]
  simp only [go_sem, seval]
  refine call_of (hT) ?_
  simp only [go_sem, seval]
  refine call_of (hC) ?_
  simp only [go_sem, seval]
  refine callD_of (hT) ?_
  simp only [go_sem, seval]
  refine callD_of (hW) ?_
  simp only [go_sem, seval]
  refine ⟨by decide +kernel, ?_⟩
  refine call_of (hH) ?_
  simp only [go_sem, seval, hpt, decide_true]
theorem SameCaps_self (l : List Cap) (h : l.length ≤ 1000000) : Ans Tryz.prog 15 [.sl (l.map encCap), .sl (l.map encCap)] (.bool true) := by
  refine good_run [(4, [4, 11, 12, 13, 14, 15, 16, 17, 18, 19, 20, 21, 22, 23, 24, 25], [])] mixed Tryz.func15 rfl Tryz.ntmps15 (rs := [.tmp 4]) rfl (by decide +kernel) (by kernel_rfl) rfl ?_
  rw [startE_eq 26 _ _ _ rfl rfl]
  simp only [go_sem, seval]
  refine loop_by ([4, 11, 12, 13, 14, 15, 16, 17, 18, 19, 20, 21, 22, 23, 24, 25], []) (fun i : Nat => [(.s 5, .int .i64 (i : Int))]) (fun i => l.length - i) (fun i => i ≤ l.length) 0 rfl (Nat.zero_le _) rfl ?_
  rintro c' st' hst i hi ih
  simp only [go_sem, seval]
  refine ifI (fun hlt => ?_) fun hlt => ?_
  · have hlt' : i < l.length := by omega
    have he := cap_eqB (nth l i) (nth l i)
    rw [decide_eq_true rfl] at he
    simp only [go_sem, seval, hlt, hlt', he]
    refine ⟨by decide +kernel, ?_⟩
    simp only [go_sem, seval, Bool.not_true]
    refine ih (i + 1) _ (by omega) (by omega) ?_
    simp only [go_sem, seval, wrap_succ (show i < 9223372036854775807 by omega)]
  · subst hst
    simp only [go_sem, seval, hlt]
end Go.Proofs.YtbhgehhmjpipiaaGreat.C12
