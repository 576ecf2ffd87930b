/- Chapter 12: the program's closure. -/
import Derived.Test.YtbhgehhmjpipiaaGreatE10
import Derived.Test.YtbhgehhmjpipiaaGreatS7
import Derived.Test.YtbhgehhmjpipiaaGreatP37
namespace Go.Proofs.YtbhgehhmjpipiaaGreat.C12
open Go Go.Proofs Go.Proofs.YtbhgehhmjpipiaaGreat.Ab Go.Proofs.YtbhgehhmjpipiaaGreat.C10
set_option maxRecDepth 100000
set_option linter.unusedSimpArgs false
set_option linter.unusedVariables false
attribute [local congr] ite_ctx
theorem Right.aut {c : Case} (h : Right c) : (cc c).Aut := ⟨h.cfit, fun j k hj hk => by
  have := authority_rng h.sound.weak (u := nth c.users j) (o := nth c.sec.objects k) (nth_mem hk)
  unfold rng at this
  exact ⟨this.1, Int.le_of_lt_add_one this.2⟩⟩
theorem Drv.small {c : Case} (h : Right c) {x : Cap} (hx : Drv (cc c) x) : CapSm x := by
  have hJ := h.J
  have hO := h.O
  obtain ⟨h1, h2, h3⟩ := hx.form (cc c) h.cfit.sp
  have ha := hx.auth h.aut
  have e1 : (cc c).J = c.users.length := rfl
  have e2 : (cc c).O = c.sec.objects.length := rfl
  unfold CapSm
  have h3' : x.kind = 0 ∨ x.kind = 1 := by rcases h3 with q | q; exact .inl q.1; exact .inr q.1
  omega
theorem derive_ok {c : Case} (h : Right c) : DOk (cc c) (derive (cc c)) := (derive_done h.cfit).ok
theorem derive_len {c : Case} (h : Right c) : (derive (cc c)).length ≤ 60 := h.cfit.len (derive_ok h)
theorem rClosure_mem {c : Case} (h : Right c) (x : Cap) : x ∈ rClosure (cc c) ↔ x ∈ (derive (cc c)).map Der.cap := by
  have D := derive_done h.cfit
  have R := rClosure_done h.cfit
  exact (closed_same (cc c) (D.closed h.cfit) D.drv (rClosed_of (cc c) R.seed R.stop) R.ok.drv x).symm
/-- The capabilities of the first derivations. -/
def takeC (L : List Der) (i : Nat) : List Cap := (L.take i).map Der.cap
theorem takeC_zero (L : List Der) : takeC L 0 = [] := rfl
theorem takeC_len (L : List Der) (i : Nat) : (takeC L i).length ≤ i := by unfold takeC; rw [List.length_map, List.length_take]; omega
theorem takeC_all {L : List Der} {i : Nat} (h : L.length ≤ i) : takeC L i = L.map Der.cap := by unfold takeC; rw [List.take_of_length_le h]
theorem takeC_succ {L : List Der} {i : Nat} (h : i < L.length) : List.map encCap (takeC L (i + 1)) = List.map encCap (takeC L i) ++ [[.int .i64 (nth L i).cap.job, .int .i64 (nth L i).cap.object, .int .i64 (nth L i).cap.kind, .int .i64 (nth L i).cap.auth]] := by
  unfold takeC
  rw [List.take_add_one, List.map_append, List.map_append, List.getElem?_eq_getElem h, nth_eq h]; rfl
theorem Closure_no {c : Case} (hs : Fit c.sec) (hu : c.users.length ≤ 1000) (he : ¬ (caseE c).2 = 0) : Ans Tryz.prog 12 [.agg (encCase c)] (.tup [.nils, .int .i64 (caseE c).2]) := by
  have h := caseErr_good c hs hu
  generalize (caseE c).2 = e at h he
  have het := eq_false he
  refine good_run [(6, [7, 17, 18, 19, 20, 21, 22, 23, 24, 25], [23, 7, 1504041024])] mixed Tryz.func12 rfl Tryz.ntmps12 (rs := [.tmp 2, .tmp 3]) rfl (by decide +kernel) (by kernel_rfl) rfl ?_
  rw [startE_eq 28 _ _ _ rfl rfl]
  simp only [go_sem, seval]
  refine call_of (h) ?_
  simp only [go_sem, seval, het, not_false_eq_true, decide_true]
set_option maxHeartbeats 8000000 in
theorem Closure_good {c : Case} (h : Right c) (he : (caseE c).2 = 0) : Ans Tryz.prog 12 [.agg (encCase c)] (.tup [.sl ((rClosure (cc c)).map encCap), .int .i64 0]) := by
  have hE := caseErr_good c h.fit (by have := h.J; omega)
  rw [he] at hE
  have hD := derive_good c h
  have hl := derive_len h
  have hok := derive_ok h
  obtain ⟨m, hm, hm1, hm2, hm3, hm4⟩ := ordered_all ((derive (cc c)).map Der.cap) (fun x hx => by
    obtain ⟨y, hy, rfl⟩ := List.mem_map.1 hx
    exact (hok.drv (cc c) y hy).1.small h) (by rw [List.length_map]; omega) (hok.nodup)
  have hmR : m = rClosure (cc c) := by rw [← hm3]; exact closure_same h.cfit hm1 hm2
  rw [hmR] at hm
  generalize derive (cc c) = L at hD hl hm
  refine good_run [(6, [7, 17, 18, 19, 20, 21, 22, 23, 24, 25], [23, 7, 1504041024])] mixed Tryz.func12 rfl Tryz.ntmps12 (rs := [.tmp 2, .tmp 3]) rfl (by decide +kernel) (by kernel_rfl) rfl ?_
  rw [startE_eq 28 _ _ _ rfl rfl]
  simp only [go_sem, seval]
  refine call_of (hE) ?_
  simp only [go_sem, seval]
  refine call_of (hD) ?_
  simp only [go_sem, seval]
  refine loop_by ([7, 17, 18, 19, 20, 21, 22, 23, 24, 25], [23, 7, 1504041024]) (fun i : Nat => [(.s 16, .int .i64 (i : Int)), (.s 5, .ref 24 (i + 1)), (.o 24, .obj (i + 1) 41 4 false true ((takeC L i).map encCap)), (.o 23, deadV i), (.o 7, deadV i)]) (fun i => L.length - i) (fun i => i ≤ L.length) 0 rfl (Nat.zero_le _) ?_ ?_
  · simp only [go_sem, seval, takeC_zero, List.map_nil]
  rintro c' st' hst i hi ih
  simp only [go_sem, seval]
  refine ifI (fun hlt => ?_) fun hlt => ?_
  · have hlt' : i < L.length := by omega
    have hk := takeC_len L i
    have b1 : ((takeC L i).length + 1) * 32 ≤ 140737488355328 := by omega
    have b2 : (takeC L i).length + 1 ≤ maxLen := by unfold maxLen; omega
    have hst := takeC_succ hlt'
    simp only [go_sem, seval, hlt, hlt', b1, b2]
    refine ih (i + 1) _ (by omega) (by omega) ?_
    simp only [go_sem, seval, wrap_succ (show i < 9223372036854775807 by omega), hst]
  · subst hst
    rw [← takeC_all (show L.length ≤ i by omega)] at hm
    simp only [go_sem, seval, hlt]
    refine call_of (hm) ?_
    simp only [go_sem, seval]
end Go.Proofs.YtbhgehhmjpipiaaGreat.C12
