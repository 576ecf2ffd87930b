/- Chapter 12: steps of the reference, whole. -/
import Derived.Test.YtbhgehhmjpipiaaGreatDoorK1
import Derived.Test.YtbhgehhmjpipiaaGreatDoorH6
set_option linter.unusedSimpArgs false
set_option linter.unusedVariables false
namespace Go.Proofs.YtbhgehhmjpipiaaGreatDoor.C12
open Go Go.Proofs Go.Proofs.YtbhgehhmjpipiaaGreatDoor.Ab Go.Proofs.YtbhgehhmjpipiaaGreatDoor.C10
set_option maxRecDepth 100000
attribute [local congr] ite_ctx
theorem copy_no (s : Stg) (h : SOk s) (a d : Nat) (ha : a < s.tags.length) (hd : d < s.tags.length) :
 Ans Tryz.prog 58 [.agg (encStg s), .agg [.int .i64 ((16 * a : Nat) : Int), .int .i64 ((16 * d : Nat) : Int), .int .i64 16], .bool false] (.agg (encStg (setQ s d (quadB s.bytes a) false))) := by
 have hz := h.size
 have hm := h.small
 have hw := WriteQ s d (quadB s.bytes a) (quadB_size (by omega)) hd (by omega) hz
 have hse : encStg (setQ s d (quadB s.bytes a) false) = [.str (patch s.bytes (16 * d) (quadB s.bytes a)), .sl ((s.tags.set d false).map encB)] := rfl
 rw [hse]
 have w2 : IntKind.wrap .i64 (((16 * a : Nat) : Int) + 16) = ((16 * a + 16 : Nat) : Int) := by rw [wrap_i64 (by omega) (by omega)]; omega
 have c0 : (0 : Int) ≤ ((16 * a : Nat) : Int) := by omega
 have c1 : ((16 * a : Nat) : Int) ≤ ((16 * a + 16 : Nat) : Int) := by omega
 have c2 : ((16 * a + 16 : Nat) : Int) ≤ (s.bytes.size : Int) := by omega
 have hqe : s.bytes.extract (16 * a) (16 * a + 16) = quadB s.bytes a := rfl
 have hp : (0 : Int) < (s.tags.length : Int) := by omega
 generalize patch s.bytes (16 * d) (quadB s.bytes a) = pb at hw
 generalize ((16 * d : Nat) : Int) = dd at hw
 refine good_run [(3, [9, 24, 25, 26, 27, 28, 29, 30, 31, 32, 33, 34, 35, 36, 37, 38, 39, 40, 41, 42, 43, 44, 45, 46, 47, 48, 49, 50, 51, 52, 53, 54, 55, 56, 57, 58, 59, 60, 61, 62, 63, 64, 65], [])] mixed Tryz.func58 rfl Tryz.ntmps58 (rs := [.cell 6 91]) rfl (by decide +kernel) (by kernel_rfl) rfl ?_
 rw [startE_eq 67 _ _ _ rfl rfl]
 simp only [go_sem, seval, w2, c0, c1, c2, Int.toNat_natCast, hqe]
 refine callMD_of [] [23] (hw) ⟨rfl, rfl, rfl, by simp, by simp, by simp, by simp, rfl, rfl, rfl, onodup_of (l := [10]) rfl (by decide)⟩ ?_
 simp only [go_sem, seval]
 refine ⟨by decide +kernel, ?_⟩
 refine loop_unfold ?_
 simp only [go_sem, seval, hp, decide_true]
def cpT (s : Stg) (a d i : Nat) : List Bool := s.tags.set d (decide (d < i) && nth s.tags a)
set_option maxHeartbeats 8000000 in
theorem copy_yes (s : Stg) (h : SOk s) (a d : Nat) (ha : a < s.tags.length) (hd : d < s.tags.length) :
 Ans Tryz.prog 58 [.agg (encStg s), .agg [.int .i64 ((16 * a : Nat) : Int), .int .i64 ((16 * d : Nat) : Int), .int .i64 16], .bool true] (.agg (encStg (setQ s d (quadB s.bytes a) (nth s.tags a)))) := by
 have hz := h.size
 have hm := h.small
 have hw := WriteQ s d (quadB s.bytes a) (quadB_size (by omega)) hd (by omega) hz
 have hse : encStg (setQ s d (quadB s.bytes a) (nth s.tags a)) = [.str (patch s.bytes (16 * d) (quadB s.bytes a)), .sl ((s.tags.set d (nth s.tags a)).map encB)] := rfl
 rw [hse]
 have w2 : IntKind.wrap .i64 (((16 * a : Nat) : Int) + 16) = ((16 * a + 16 : Nat) : Int) := by rw [wrap_i64 (by omega) (by omega)]; omega
 have c0 : (0 : Int) ≤ ((16 * a : Nat) : Int) := by omega
 have c1 : ((16 * a : Nat) : Int) ≤ ((16 * a + 16 : Nat) : Int) := by omega
 have c2 : ((16 * a + 16 : Nat) : Int) ≤ (s.bytes.size : Int) := by omega
 have hqe : s.bytes.extract (16 * a) (16 * a + 16) = quadB s.bytes a := rfl
 have h0 : s.tags.set d false = cpT s a d 0 := by unfold cpT; rw [decide_eq_false (by omega), Bool.false_and]
 have hN : cpT s a d s.tags.length = s.tags.set d (nth s.tags a) := by unfold cpT; rw [decide_eq_true hd, Bool.true_and]
 rw [h0] at hw
 rw [← hN]
 generalize patch s.bytes (16 * d) (quadB s.bytes a) = pb at hw
 have w5 : IntKind.wrap .i64 (((16 * d : Nat) : Int) + 16) = ((16 * d + 16 : Nat) : Int) := by rw [wrap_i64 (by omega) (by omega)]; omega
 refine good_run [(3, [9, 24, 25, 26, 27, 28, 29, 30, 31, 32, 33, 34, 35, 36, 37, 38, 39, 40, 41, 42, 43, 44, 45, 46, 47, 48, 49, 50, 51, 52, 53, 54, 55, 56, 57, 58, 59, 60, 61, 62, 63, 64, 65], [])] mixed Tryz.func58 rfl Tryz.ntmps58 (rs := [.cell 6 91]) rfl (by decide +kernel) (by kernel_rfl) rfl ?_
 rw [startE_eq 67 _ _ _ rfl rfl]
 simp only [go_sem, seval, w2, c0, c1, c2, Int.toNat_natCast, hqe]
 refine callMD_of [] [23] (hw) ⟨rfl, rfl, rfl, by simp, by simp, by simp, by simp, rfl, rfl, rfl, onodup_of (l := [10]) rfl (by decide)⟩ ?_
 simp only [go_sem, seval]
 refine ⟨by decide +kernel, ?_⟩
 refine loop_by ([9, 24, 25, 26, 27, 28, 29, 30, 31, 32, 33, 34, 35, 36, 37, 38, 39, 40, 41, 42, 43, 44, 45, 46, 47, 48, 49, 50, 51, 52, 53, 54, 55, 56, 57, 58, 59, 60, 61, 62, 63, 64, 65], []) (fun i : Nat => [(.s 8, .int .i64 (i : Int)), (.o 23, .obj 1 4 1 false true ((cpT s a d i).map encB))]) (fun i => s.tags.length - i) (fun i => i ≤ s.tags.length) 0 rfl (Nat.zero_le _) rfl ?_
 rintro c' st' hst i hi ih
 simp only [go_sem, seval]
 refine ifI (fun hlt => ?_) fun hlt => ?_
 · have hlt' : i < s.tags.length := by omega
   have w3 : IntKind.wrap .i64 ((i : Int) * 16) = ((16 * i : Nat) : Int) := by rw [wrap_i64 (by omega) (by omega)]; omega
   have w4 : IntKind.wrap .i64 (((16 * i : Nat) : Int) + 16) = ((16 * i + 16 : Nat) : Int) := by rw [wrap_i64 (by omega) (by omega)]; omega
   have hL : (cpT s a d i).length = s.tags.length := by unfold cpT; rw [List.length_set]
   rcases Nat.lt_trichotomy i d with q | q | q
   · have l1 : ¬ ((16 * d : Nat) : Int) ≤ ((16 * i : Nat) : Int) := by omega
     have hn : cpT s a d (i + 1) = cpT s a d i := by unfold cpT; rw [decide_eq_false (show ¬ d < i + 1 by omega), decide_eq_false (show ¬ d < i by omega)]
     simp only [go_sem, seval, hlt, w3, l1, decide_false]
     refine ih (i + 1) _ (by omega) (by omega) ?_
     simp only [go_sem, seval, wrap_succ (show i < 9223372036854775807 by omega), hn]
   · subst q
     have l1 : ((16 * i : Nat) : Int) ≤ ((16 * i : Nat) : Int) := Int.le_refl _
     have l2 : ((16 * i + 16 : Nat) : Int) ≤ ((16 * i + 16 : Nat) : Int) := Int.le_refl _
     have v1 : IntKind.wrap .i64 (((16 * i : Nat) : Int) - ((16 * i : Nat) : Int)) = 0 := by rw [Int.sub_self]; decide
     have v2 : IntKind.wrap .i64 (0 + ((16 * a : Nat) : Int)) = ((16 * a : Nat) : Int) := by rw [Int.zero_add, wrap_i64 (by omega) (by omega)]
     have v3 : IntKind.wrap .i64 (Int.tdiv ((16 * a : Nat) : Int) 16) = (a : Int) := by rw [Int.tdiv_eq_ediv_of_nonneg (by omega), wrap_i64 (by omega) (by omega)]; omega
     have hix1 : i < (cpT s a i i).length := by omega
     have hix2 : (i : Int) < ((cpT s a i i).length : Int) := by omega
     have ha2 : (a : Int) < (s.tags.length : Int) := by omega
     have hq : (List.map encB (cpT s a i i))[i]? = some [.bool (nth (cpT s a i i) i)] := at_map hix1
     have hqa : (List.map encB s.tags)[a]? = some [.bool (nth s.tags a)] := at_map ha
     have hset : (List.map encB (cpT s a i i)).set i [.bool (nth s.tags a)] = List.map encB (cpT s a i (i + 1)) := by
      rw [show [AV.bool (nth s.tags a)] = encB (nth s.tags a) from rfl, ← List.map_set]
      unfold cpT
      rw [List.set_set, decide_eq_true (show i < i + 1 by omega), Bool.true_and]
     simp only [go_sem, seval, hlt, w3, w4, w5, l1, l2, decide_true, v1, v2, v3, ha, ha2, hix1, hix2, hq, hqa, Option.map_some, hset, Int.toNat_natCast]
     refine ⟨by decide +kernel, ?_⟩
     refine ih (i + 1) _ (by omega) (by omega) ?_
     simp only [go_sem, seval, wrap_succ (show i < 9223372036854775807 by omega)]
   · have l1 : ((16 * d : Nat) : Int) ≤ ((16 * i : Nat) : Int) := by omega
     have l2 : ¬ ((16 * i + 16 : Nat) : Int) ≤ ((16 * d + 16 : Nat) : Int) := by omega
     have hn : cpT s a d (i + 1) = cpT s a d i := by unfold cpT; rw [decide_eq_true (show d < i + 1 by omega), decide_eq_true (show d < i by omega)]
     simp only [go_sem, seval, hlt, w3, w4, w5, l1, l2, decide_true, decide_false]
     refine ih (i + 1) _ (by omega) (by omega) ?_
     simp only [go_sem, seval, wrap_succ (show i < 9223372036854775807 by omega), hn]
 · have hin : i = s.tags.length := by omega
   subst hst
   simp only [go_sem, seval, hlt, decide_false]
   rw [hin]
   try exact ⟨rfl, rfl⟩
abbrev RS (c : Case) (s : St) (o : COp) (r : AV) (e : Int) : Prop := Ans Tryz.prog 27 [.agg (encCase c), .agg (encSt s), .agg (encCOp o)] (.tup [r, .int .i64 e])
theorem rs_kind (c : Case) (s : St) (o : COp) (hk : ¬ (0 ≤ o.kind ∧ o.kind ≤ 8)) : RS c s o (.agg [.nils, .nils]) 4 := by
 have h1 := Within_good o.kind 0 8
 rw [show inB o.kind 0 8 = false by unfold inB; exact decide_eq_false hk] at h1
 refine good_run [] mixed Tryz.func27 rfl Tryz.ntmps27 (rs := [.cell 6 37, .tmp 7]) rfl (by decide +kernel) (by kernel_rfl) rfl ?_
 rw [startE_eq 120 _ _ _ rfl rfl]
 simp only [go_sem, seval]
 refine call_of (h1) ?_
 simp only [go_sem, seval, Bool.not_false]
theorem rs_job (c : Case) (s : St) (o : COp) (hk : 0 ≤ o.kind ∧ o.kind ≤ 8) (hj : ¬ (0 ≤ o.job ∧ o.job < (c.users.length : Int))) (hu : c.users.length ≤ 1000) : RS c s o (.agg [.nils, .nils]) 3 := by
 have h1 := Within_good o.kind 0 8
 rw [show inB o.kind 0 8 = true by unfold inB; exact decide_eq_true hk] at h1
 have h2 := Within_good o.job 0 ((c.users.length : Int) - 1)
 rw [show inB o.job 0 ((c.users.length : Int) - 1) = false by unfold inB; exact decide_eq_false (by omega)] at h2
 have w1 : IntKind.wrap .i64 ((c.users.length : Int) - 1) = (c.users.length : Int) - 1 := wrap_i64 (by omega) (by omega)
 refine good_run [] mixed Tryz.func27 rfl Tryz.ntmps27 (rs := [.cell 6 37, .tmp 7]) rfl (by decide +kernel) (by kernel_rfl) rfl ?_
 rw [startE_eq 120 _ _ _ rfl rfl]
 simp only [go_sem, seval]
 refine call_of (h1) ?_
 simp only [go_sem, seval, Bool.not_true, w1]
 refine call_of (h2) ?_
 simp only [go_sem, seval, Bool.not_false]
theorem rs_bad (c : Case) (s : St) (o : COp) (hk : 0 ≤ o.kind ∧ o.kind ≤ 8) (hj : 0 ≤ o.job ∧ o.job < (c.users.length : Int)) (hu : c.users.length ≤ 1000) (hO : c.sec.objects.length ≤ 1000) (hd0 : o.data.size ≤ 1000000) (hb : badF (cc c) o = true) : RS c s o (.agg [.nils, .nils]) 3 := by
 have h1 := Within_good o.kind 0 8
 rw [show inB o.kind 0 8 = true by unfold inB; exact decide_eq_true hk] at h1
 have h2 := Within_good o.job 0 ((c.users.length : Int) - 1)
 rw [show inB o.job 0 ((c.users.length : Int) - 1) = true by unfold inB; exact decide_eq_true (by omega)] at h2
 have hr := fields_good c hO o hk hd0
 rw [hb, if_pos rfl] at hr
 have w1 : IntKind.wrap .i64 ((c.users.length : Int) - 1) = (c.users.length : Int) - 1 := wrap_i64 (by omega) (by omega)
 refine good_run [] mixed Tryz.func27 rfl Tryz.ntmps27 (rs := [.cell 6 37, .tmp 7]) rfl (by decide +kernel) (by kernel_rfl) rfl ?_
 rw [startE_eq 120 _ _ _ rfl rfl]
 simp only [go_sem, seval]
 refine call_of (h1) ?_
 simp only [go_sem, seval, Bool.not_true, w1]
 refine call_of (h2) ?_
 simp only [go_sem, seval, Bool.not_true]
 refine call_of (hr) ?_
 simp only [go_sem, seval]
set_option maxHeartbeats 16000000 in
theorem rs_no0 {c : Case} (h : Right c) (s : St) (o : COp) (hd0 : o.data.size ≤ 1000000) (j : Nat) (F : Fm c s o j) (k0 : o.kind = 0) (k d : Nat) (hob : o.object = (k : Int)) (hdt : o.dst = (d : Int)) (hkO : k < c.sec.objects.length) (hd59 : d ≤ 59) (ha : auI c j k = 0) : RS c s o (.agg [.nils, .nils]) 23 := by
 have hJ := h.J
 have hO := h.O
 have hk := F.kind
 have hjb := F.job
 have hj := F.hj
 have hjs := F.hjs
 have hz := F.sz
 have h1 := Within_good o.kind 0 8
 rw [show inB o.kind 0 8 = true by unfold inB; exact decide_eq_true hk] at h1
 have h2 := Within_good o.job 0 ((c.users.length : Int) - 1)
 rw [show inB o.job 0 ((c.users.length : Int) - 1) = true by unfold inB; exact decide_eq_true (by omega)] at h2
 have hr := fields_good c (by omega) o hk hd0
 rw [F.bad, if_neg (by decide)] at hr
 have w1 : IntKind.wrap .i64 ((c.users.length : Int) - 1) = (c.users.length : Int) - 1 := wrap_i64 (by omega) (by omega)
 have hm := OwnStateM s hz.j hz.p (fun x hx => (hz.jt x hx).1) (fun x hx => (hz.pt x hx).1)
 have hjs2 : (j : Int) < (s.jobs.length : Int) := by omega
 have hj2 : (j : Int) < (c.users.length : Int) := by omega
 have hqj : (List.map encStg s.jobs)[j]? = some (encStg (nth s.jobs j)) := at_map hjs
 rw [hjb] at h2
 have hA := rAuthority_good h hj hkO
 have w2 : IntKind.wrap .i64 ((d : Int) * 16) = ((16 * d : Nat) : Int) := by rw [wrap_i64 (by omega) (by omega)]; omega
 have w3 : IntKind.wrap .i64 ((k : Int) + 1) = (k : Int) + 1 := wrap_i64 (by omega) (by omega)
 rw [ha] at hA
 obtain ⟨kind, job, src, dst, pointer, object, auth, data⟩ := o
 simp only at *
 subst k0 hjb hob hdt
 refine good_run [] mixed Tryz.func27 rfl Tryz.ntmps27 (rs := [.cell 6 37, .tmp 7]) rfl (by decide +kernel) (by kernel_rfl) rfl ?_
 rw [startE_eq 120 _ _ _ rfl rfl]
 simp only [go_sem, seval]
 refine call_of (h1) ?_
 simp only [go_sem, seval, Bool.not_true, w1]
 refine call_of (h2) ?_
 simp only [go_sem, seval, Bool.not_true]
 refine call_of (hr) ?_
 simp only [go_sem, seval]
 refine callM_of [] [35, 36] (hm) ⟨rfl, rfl, rfl, by simp, by simp, by simp, by simp, rfl, rfl, rfl, onodup_of (l := [23, 41]) rfl (by decide)⟩ ?_
 simp only [go_sem, seval]
 simp only [go_sem, seval, hjs, hjs2, hj, hj2]
 refine callD_of (hA) ?_
 simp only [go_sem, seval]
 decide +kernel
set_option maxHeartbeats 16000000 in
theorem rs_ok0 {c : Case} (h : Right c) (s : St) (o : COp) (hd0 : o.data.size ≤ 1000000) (j : Nat) (F : Fm c s o j) (k0 : o.kind = 0) (k d : Nat) (hob : o.object = (k : Int)) (hdt : o.dst = (d : Int)) (hkO : k < c.sec.objects.length) (hd59 : d ≤ 59) (ha : ¬ auI c j k = 0) (har : 0 ≤ auI c j k ∧ auI c j k ≤ 1023) : RS c s o (.agg (encSt ⟨s.jobs.set j (setQ (nth s.jobs j) d (ptrB ⟨1, (k : Int) + 1, 0, auI c j k⟩) true), s.spaces⟩)) 0 := by
 have hJ := h.J
 have hO := h.O
 have hk := F.kind
 have hjb := F.job
 have hj := F.hj
 have hjs := F.hjs
 have hz := F.sz
 have h1 := Within_good o.kind 0 8
 rw [show inB o.kind 0 8 = true by unfold inB; exact decide_eq_true hk] at h1
 have h2 := Within_good o.job 0 ((c.users.length : Int) - 1)
 rw [show inB o.job 0 ((c.users.length : Int) - 1) = true by unfold inB; exact decide_eq_true (by omega)] at h2
 have hr := fields_good c (by omega) o hk hd0
 rw [F.bad, if_neg (by decide)] at hr
 have w1 : IntKind.wrap .i64 ((c.users.length : Int) - 1) = (c.users.length : Int) - 1 := wrap_i64 (by omega) (by omega)
 have hm := OwnStateM s hz.j hz.p (fun x hx => (hz.jt x hx).1) (fun x hx => (hz.pt x hx).1)
 have hjs2 : (j : Int) < (s.jobs.length : Int) := by omega
 have hj2 : (j : Int) < (c.users.length : Int) := by omega
 have hqj : (List.map encStg s.jobs)[j]? = some (encStg (nth s.jobs j)) := at_map hjs
 rw [hjb] at h2
 have hA := rAuthority_good h hj hkO
 have w2 : IntKind.wrap .i64 ((d : Int) * 16) = ((16 * d : Nat) : Int) := by rw [wrap_i64 (by omega) (by omega)]; omega
 have w3 : IntKind.wrap .i64 ((k : Int) + 1) = (k : Int) + 1 := wrap_i64 (by omega) (by omega)
 have hS := Store_good (nth s.jobs j) d ⟨1, (k : Int) + 1, 0, auI c j k⟩ (ptrE_ok.2 ⟨by simp only; omega, by simp only; omega, by simp only; omega, har, .inl rfl⟩) (by have := F.t60; omega) (by have := F.t60; omega) F.sok.size
 have hpe : encPtr ⟨1, (k : Int) + 1, 0, auI c j k⟩ = [.int .i64 1, .int .i64 ((k : Int) + 1), .int .i64 0, .int .i64 (auI c j k)] := rfl
 rw [hpe] at hS
 have hat := eq_false ha
 generalize setQ (nth s.jobs j) d (ptrB ⟨1, (k : Int) + 1, 0, auI c j k⟩) true = X at hS
 generalize auI c j k = a at hA hS hat
 have hset2 : (s.jobs.map encStg).set j [.str X.bytes, .sl (X.tags.map encB)] = (s.jobs.set j X).map encStg := List.map_set.symm
 generalize ((16 * d : Nat) : Int) = dd at w2 hS
 obtain ⟨kind, job, src, dst, pointer, object, auth, data⟩ := o
 simp only at *
 subst k0 hjb hob hdt
 refine good_run [] mixed Tryz.func27 rfl Tryz.ntmps27 (rs := [.cell 6 37, .tmp 7]) rfl (by decide +kernel) (by kernel_rfl) rfl ?_
 rw [startE_eq 120 _ _ _ rfl rfl]
 simp only [go_sem, seval]
 refine call_of (h1) ?_
 simp only [go_sem, seval, Bool.not_true, w1]
 refine call_of (h2) ?_
 simp only [go_sem, seval, Bool.not_true]
 refine call_of (hr) ?_
 simp only [go_sem, seval]
 refine callM_of [] [35, 36] (hm) ⟨rfl, rfl, rfl, by simp, by simp, by simp, by simp, rfl, rfl, rfl, onodup_of (l := [23, 41]) rfl (by decide)⟩ ?_
 simp only [go_sem, seval]
 simp only [go_sem, seval, hjs, hjs2, hj, hj2]
 refine callD_of (hA) ?_
 simp only [go_sem, seval, hat, decide_false, w2, w3, hjs, hjs2, hqj, Option.map_some, Int.toNat_natCast]
 refine ⟨by decide +kernel, ?_⟩
 refine callD_of (hS) ?_
 simp only [go_sem, seval, hjs, hjs2, hqj, Option.map_some, Int.toNat_natCast, hset2]
 decide +kernel
set_option maxHeartbeats 16000000 in
theorem rs_ok1 {c : Case} (h : Right c) (s : St) (o : COp) (hd0 : o.data.size ≤ 1000000) (j : Nat) (F : Fm c s o j) (k0 : o.kind = 1) (d : Nat) (hdt : o.dst = (d : Int)) (hdz : d + o.data.size ≤ 960) : RS c s o (.agg (encSt ⟨s.jobs.set j (wrS (nth s.jobs j) d o.data), s.spaces⟩)) 0 := by
 have hJ := h.J
 have hO := h.O
 have hk := F.kind
 have hjb := F.job
 have hj := F.hj
 have hjs := F.hjs
 have hz := F.sz
 have h1 := Within_good o.kind 0 8
 rw [show inB o.kind 0 8 = true by unfold inB; exact decide_eq_true hk] at h1
 have h2 := Within_good o.job 0 ((c.users.length : Int) - 1)
 rw [show inB o.job 0 ((c.users.length : Int) - 1) = true by unfold inB; exact decide_eq_true (by omega)] at h2
 have hr := fields_good c (by omega) o hk hd0
 rw [F.bad, if_neg (by decide)] at hr
 have w1 : IntKind.wrap .i64 ((c.users.length : Int) - 1) = (c.users.length : Int) - 1 := wrap_i64 (by omega) (by omega)
 have hm := OwnStateM s hz.j hz.p (fun x hx => (hz.jt x hx).1) (fun x hx => (hz.pt x hx).1)
 have hjs2 : (j : Int) < (s.jobs.length : Int) := by omega
 have hj2 : (j : Int) < (c.users.length : Int) := by omega
 have hqj : (List.map encStg s.jobs)[j]? = some (encStg (nth s.jobs j)) := at_map hjs
 rw [hjb] at h2
 have hS := Write_good (nth s.jobs j) d o.data (by have := F.t60; omega) (by have := F.t60; omega) F.sok.size (by have := F.t60; have := F.sok.size; omega)
 obtain ⟨kind, job, src, dst, pointer, object, auth, data⟩ := o
 simp only at *
 subst k0 hjb hdt
 generalize wrS (nth s.jobs j) d data = X at hS
 have hset2 : (s.jobs.map encStg).set j [.str X.bytes, .sl (X.tags.map encB)] = (s.jobs.set j X).map encStg := List.map_set.symm
 refine good_run [] mixed Tryz.func27 rfl Tryz.ntmps27 (rs := [.cell 6 37, .tmp 7]) rfl (by decide +kernel) (by kernel_rfl) rfl ?_
 rw [startE_eq 120 _ _ _ rfl rfl]
 simp only [go_sem, seval]
 refine call_of (h1) ?_
 simp only [go_sem, seval, Bool.not_true, w1]
 refine call_of (h2) ?_
 simp only [go_sem, seval, Bool.not_true]
 refine call_of (hr) ?_
 simp only [go_sem, seval]
 refine callM_of [] [35, 36] (hm) ⟨rfl, rfl, rfl, by simp, by simp, by simp, by simp, rfl, rfl, rfl, onodup_of (l := [23, 41]) rfl (by decide)⟩ ?_
 simp only [go_sem, seval]
 simp only [go_sem, seval, hjs, hjs2, hj, hj2, hjs, hjs2, hqj, Option.map_some, Int.toNat_natCast]
 refine callD_of (hS) ?_
 simp only [go_sem, seval, hjs, hjs2, hqj, Option.map_some, Int.toNat_natCast, hset2]
 decide +kernel
set_option maxHeartbeats 16000000 in
theorem rs_ok2 {c : Case} (h : Right c) (s : St) (o : COp) (hd0 : o.data.size ≤ 1000000) (j : Nat) (F : Fm c s o j) (k0 : o.kind = 2) (a d : Nat) (hsr : o.src = (a : Int)) (hdt : o.dst = (d : Int)) (ha59 : a ≤ 59) (hd59 : d ≤ 59) : RS c s o (.agg (encSt ⟨s.jobs.set j (setQ (nth s.jobs j) d (quadB (nth s.jobs j).bytes a) (nth (nth s.jobs j).tags a)), s.spaces⟩)) 0 := by
 have hJ := h.J
 have hO := h.O
 have hk := F.kind
 have hjb := F.job
 have hj := F.hj
 have hjs := F.hjs
 have hz := F.sz
 have h1 := Within_good o.kind 0 8
 rw [show inB o.kind 0 8 = true by unfold inB; exact decide_eq_true hk] at h1
 have h2 := Within_good o.job 0 ((c.users.length : Int) - 1)
 rw [show inB o.job 0 ((c.users.length : Int) - 1) = true by unfold inB; exact decide_eq_true (by omega)] at h2
 have hr := fields_good c (by omega) o hk hd0
 rw [F.bad, if_neg (by decide)] at hr
 have w1 : IntKind.wrap .i64 ((c.users.length : Int) - 1) = (c.users.length : Int) - 1 := wrap_i64 (by omega) (by omega)
 have hm := OwnStateM s hz.j hz.p (fun x hx => (hz.jt x hx).1) (fun x hx => (hz.pt x hx).1)
 have hjs2 : (j : Int) < (s.jobs.length : Int) := by omega
 have hj2 : (j : Int) < (c.users.length : Int) := by omega
 have hqj : (List.map encStg s.jobs)[j]? = some (encStg (nth s.jobs j)) := at_map hjs
 rw [hjb] at h2
 have hS := copy_yes (nth s.jobs j) F.sok a d (by have := F.t60; omega) (by have := F.t60; omega)
 have w2 : IntKind.wrap .i64 ((d : Int) * 16) = ((16 * d : Nat) : Int) := by rw [wrap_i64 (by omega) (by omega)]; omega
 have w3 : IntKind.wrap .i64 ((a : Int) * 16) = ((16 * a : Nat) : Int) := by rw [wrap_i64 (by omega) (by omega)]; omega
 generalize setQ (nth s.jobs j) d (quadB (nth s.jobs j).bytes a) (nth (nth s.jobs j).tags a) = X at hS
 generalize ((16 * d : Nat) : Int) = dd at w2 hS
 generalize ((16 * a : Nat) : Int) = aa at w3 hS
 have hset2 : (s.jobs.map encStg).set j [.str X.bytes, .sl (X.tags.map encB)] = (s.jobs.set j X).map encStg := List.map_set.symm
 obtain ⟨kind, job, src, dst, pointer, object, auth, data⟩ := o
 simp only at *
 subst k0 hjb hsr hdt
 refine good_run [] mixed Tryz.func27 rfl Tryz.ntmps27 (rs := [.cell 6 37, .tmp 7]) rfl (by decide +kernel) (by kernel_rfl) rfl ?_
 rw [startE_eq 120 _ _ _ rfl rfl]
 simp only [go_sem, seval]
 refine call_of (h1) ?_
 simp only [go_sem, seval, Bool.not_true, w1]
 refine call_of (h2) ?_
 simp only [go_sem, seval, Bool.not_true]
 refine call_of (hr) ?_
 simp only [go_sem, seval]
 refine callM_of [] [35, 36] (hm) ⟨rfl, rfl, rfl, by simp, by simp, by simp, by simp, rfl, rfl, rfl, onodup_of (l := [23, 41]) rfl (by decide)⟩ ?_
 simp only [go_sem, seval]
 simp only [go_sem, seval, hjs, hjs2, hj, hj2, w2, w3, hjs, hjs2, hqj, Option.map_some, Int.toNat_natCast]
 refine callD_of (hS) ?_
 simp only [go_sem, seval, hjs, hjs2, hqj, Option.map_some, Int.toNat_natCast, hset2]
 decide +kernel
set_option maxHeartbeats 16000000 in
theorem rs_ok3 {c : Case} (h : Right c) (s : St) (o : COp) (hd0 : o.data.size ≤ 1000000) (j : Nat) (F : Fm c s o j) (k0 : o.kind = 3) (a d : Nat) (hsr : o.src = (a : Int)) (hdt : o.dst = (d : Int)) (ha59 : a ≤ 59) (hd59 : d ≤ 59) : RS c s o (.agg (encSt ⟨s.jobs.set j (setQ (nth s.jobs j) d (quadB (nth s.jobs j).bytes a) false), s.spaces⟩)) 0 := by
 have hJ := h.J
 have hO := h.O
 have hk := F.kind
 have hjb := F.job
 have hj := F.hj
 have hjs := F.hjs
 have hz := F.sz
 have h1 := Within_good o.kind 0 8
 rw [show inB o.kind 0 8 = true by unfold inB; exact decide_eq_true hk] at h1
 have h2 := Within_good o.job 0 ((c.users.length : Int) - 1)
 rw [show inB o.job 0 ((c.users.length : Int) - 1) = true by unfold inB; exact decide_eq_true (by omega)] at h2
 have hr := fields_good c (by omega) o hk hd0
 rw [F.bad, if_neg (by decide)] at hr
 have w1 : IntKind.wrap .i64 ((c.users.length : Int) - 1) = (c.users.length : Int) - 1 := wrap_i64 (by omega) (by omega)
 have hm := OwnStateM s hz.j hz.p (fun x hx => (hz.jt x hx).1) (fun x hx => (hz.pt x hx).1)
 have hjs2 : (j : Int) < (s.jobs.length : Int) := by omega
 have hj2 : (j : Int) < (c.users.length : Int) := by omega
 have hqj : (List.map encStg s.jobs)[j]? = some (encStg (nth s.jobs j)) := at_map hjs
 rw [hjb] at h2
 have hS := copy_no (nth s.jobs j) F.sok a d (by have := F.t60; omega) (by have := F.t60; omega)
 have w2 : IntKind.wrap .i64 ((d : Int) * 16) = ((16 * d : Nat) : Int) := by rw [wrap_i64 (by omega) (by omega)]; omega
 have w3 : IntKind.wrap .i64 ((a : Int) * 16) = ((16 * a : Nat) : Int) := by rw [wrap_i64 (by omega) (by omega)]; omega
 generalize setQ (nth s.jobs j) d (quadB (nth s.jobs j).bytes a) false = X at hS
 generalize ((16 * d : Nat) : Int) = dd at w2 hS
 generalize ((16 * a : Nat) : Int) = aa at w3 hS
 have hset2 : (s.jobs.map encStg).set j [.str X.bytes, .sl (X.tags.map encB)] = (s.jobs.set j X).map encStg := List.map_set.symm
 obtain ⟨kind, job, src, dst, pointer, object, auth, data⟩ := o
 simp only at *
 subst k0 hjb hsr hdt
 refine good_run [] mixed Tryz.func27 rfl Tryz.ntmps27 (rs := [.cell 6 37, .tmp 7]) rfl (by decide +kernel) (by kernel_rfl) rfl ?_
 rw [startE_eq 120 _ _ _ rfl rfl]
 simp only [go_sem, seval]
 refine call_of (h1) ?_
 simp only [go_sem, seval, Bool.not_true, w1]
 refine call_of (h2) ?_
 simp only [go_sem, seval, Bool.not_true]
 refine call_of (hr) ?_
 simp only [go_sem, seval]
 refine callM_of [] [35, 36] (hm) ⟨rfl, rfl, rfl, by simp, by simp, by simp, by simp, rfl, rfl, rfl, onodup_of (l := [23, 41]) rfl (by decide)⟩ ?_
 simp only [go_sem, seval]
 simp only [go_sem, seval, hjs, hjs2, hj, hj2, w2, w3, hjs, hjs2, hqj, Option.map_some, Int.toNat_natCast]
 refine callD_of (hS) ?_
 simp only [go_sem, seval, hjs, hjs2, hqj, Option.map_some, Int.toNat_natCast, hset2]
 decide +kernel
set_option maxHeartbeats 16000000 in
theorem rs_by_no {c : Case} (h : Right c) (s : St) (o : COp) (hd0 : o.data.size ≤ 1000000) (j : Nat) (F : Fm c s o j) (k4 : 4 ≤ o.kind) (e : Int) (hby : BP c s o (.agg [.nils, .nils]) e s) : RS c s o (.agg [.nils, .nils]) e := by
 have hJ := h.J
 have hO := h.O
 have hk := F.kind
 have hjb := F.job
 have hj := F.hj
 have hjs := F.hjs
 have hz := F.sz
 have h1 := Within_good o.kind 0 8
 rw [show inB o.kind 0 8 = true by unfold inB; exact decide_eq_true hk] at h1
 have h2 := Within_good o.job 0 ((c.users.length : Int) - 1)
 rw [show inB o.job 0 ((c.users.length : Int) - 1) = true by unfold inB; exact decide_eq_true (by omega)] at h2
 have hr := fields_good c (by omega) o hk hd0
 rw [F.bad, if_neg (by decide)] at hr
 have w1 : IntKind.wrap .i64 ((c.users.length : Int) - 1) = (c.users.length : Int) - 1 := wrap_i64 (by omega) (by omega)
 have hm := OwnStateM s hz.j hz.p (fun x hx => (hz.jt x hx).1) (fun x hx => (hz.pt x hx).1)
 have hjs2 : (j : Int) < (s.jobs.length : Int) := by omega
 have hj2 : (j : Int) < (c.users.length : Int) := by omega
 have hqj : (List.map encStg s.jobs)[j]? = some (encStg (nth s.jobs j)) := at_map hjs
 rw [hjb] at h2
 have q0 : (o.kind = 0) = False := eq_false (by omega)
 have q1 : (o.kind = 1) = False := eq_false (by omega)
 have q2 : (o.kind = 2) = False := eq_false (by omega)
 have q3 : (o.kind = 3) = False := eq_false (by omega)
 obtain ⟨kind, job, src, dst, pointer, object, auth, data⟩ := o
 simp only at *
 subst hjb
 simp only [BP, encCase, encCOp] at hby
 refine good_run [] mixed Tryz.func27 rfl Tryz.ntmps27 (rs := [.cell 6 37, .tmp 7]) rfl (by decide +kernel) (by kernel_rfl) rfl ?_
 rw [startE_eq 120 _ _ _ rfl rfl]
 simp only [go_sem, seval]
 refine call_of (h1) ?_
 simp only [go_sem, seval, Bool.not_true, w1]
 refine call_of (h2) ?_
 simp only [go_sem, seval, Bool.not_true]
 refine call_of (hr) ?_
 simp only [go_sem, seval]
 refine callM_of [] [35, 36] (hm) ⟨rfl, rfl, rfl, by simp, by simp, by simp, by simp, rfl, rfl, rfl, onodup_of (l := [23, 41]) rfl (by decide)⟩ ?_
 simp only [go_sem, seval]
 simp only [go_sem, seval, hjs, hjs2, hj, hj2, q0, q1, q2, q3, decide_false]
 refine callM_of [35, 36] [35, 36] (hby) ⟨by simp [renA, ren1, invM, posOf, verOf, AV.cellP, Env.go], rfl, rfl, by simp, by simp, by simp, by simp, rfl, rfl, rfl, onodup_of (l := [166, 167]) rfl (by decide)⟩ ?_
 simp only [go_sem, seval]
set_option maxHeartbeats 16000000 in
theorem rs_by_ok {c : Case} (h : Right c) (s : St) (o : COp) (hd0 : o.data.size ≤ 1000000) (j : Nat) (F : Fm c s o j) (k4 : 4 ≤ o.kind) (t : St) (hby : BP c s o (.agg [.ref 166 1, .ref 167 1]) 0 t) : RS c s o (.agg (encSt t)) 0 := by
 have hJ := h.J
 have hO := h.O
 have hk := F.kind
 have hjb := F.job
 have hj := F.hj
 have hjs := F.hjs
 have hz := F.sz
 have h1 := Within_good o.kind 0 8
 rw [show inB o.kind 0 8 = true by unfold inB; exact decide_eq_true hk] at h1
 have h2 := Within_good o.job 0 ((c.users.length : Int) - 1)
 rw [show inB o.job 0 ((c.users.length : Int) - 1) = true by unfold inB; exact decide_eq_true (by omega)] at h2
 have hr := fields_good c (by omega) o hk hd0
 rw [F.bad, if_neg (by decide)] at hr
 have w1 : IntKind.wrap .i64 ((c.users.length : Int) - 1) = (c.users.length : Int) - 1 := wrap_i64 (by omega) (by omega)
 have hm := OwnStateM s hz.j hz.p (fun x hx => (hz.jt x hx).1) (fun x hx => (hz.pt x hx).1)
 have hjs2 : (j : Int) < (s.jobs.length : Int) := by omega
 have hj2 : (j : Int) < (c.users.length : Int) := by omega
 have hqj : (List.map encStg s.jobs)[j]? = some (encStg (nth s.jobs j)) := at_map hjs
 rw [hjb] at h2
 have q0 : (o.kind = 0) = False := eq_false (by omega)
 have q1 : (o.kind = 1) = False := eq_false (by omega)
 have q2 : (o.kind = 2) = False := eq_false (by omega)
 have q3 : (o.kind = 3) = False := eq_false (by omega)
 obtain ⟨kind, job, src, dst, pointer, object, auth, data⟩ := o
 simp only at *
 subst hjb
 simp only [BP, encCase, encCOp] at hby
 refine good_run [] mixed Tryz.func27 rfl Tryz.ntmps27 (rs := [.cell 6 37, .tmp 7]) rfl (by decide +kernel) (by kernel_rfl) rfl ?_
 rw [startE_eq 120 _ _ _ rfl rfl]
 simp only [go_sem, seval]
 refine call_of (h1) ?_
 simp only [go_sem, seval, Bool.not_true, w1]
 refine call_of (h2) ?_
 simp only [go_sem, seval, Bool.not_true]
 refine call_of (hr) ?_
 simp only [go_sem, seval]
 refine callM_of [] [35, 36] (hm) ⟨rfl, rfl, rfl, by simp, by simp, by simp, by simp, rfl, rfl, rfl, onodup_of (l := [23, 41]) rfl (by decide)⟩ ?_
 simp only [go_sem, seval]
 simp only [go_sem, seval, hjs, hjs2, hj, hj2, q0, q1, q2, q3, decide_false]
 refine callM_of [35, 36] [35, 36] (hby) ⟨by simp [renA, ren1, invM, posOf, verOf, AV.cellP, Env.go], rfl, rfl, by simp, by simp, by simp, by simp, rfl, rfl, rfl, onodup_of (l := [166, 167]) rfl (by decide)⟩ ?_
 simp only [go_sem, seval]
theorem rs_ok4 {c : Case} (h : Right c) (s : St) (o : COp) (hd0 : o.data.size ≤ 1000000) (j : Nat) (F : Fm c s o j) (k0 : o.kind = 4) (a : Nat) (p : Ptr) (P : Pt c s o j a p) (hn : p.kind = 1) (hau : 0 ≤ o.auth ∧ o.auth ≤ 1023) : RS c s o (.agg (encSt ⟨s.jobs.set j (setQ (nth s.jobs j) a (ptrB ⟨p.kind, p.seg, p.off, andI p.auth o.auth⟩) true), s.spaces⟩)) 0 := by
 refine rs_by_ok h s o hd0 j F (by omega) ⟨s.jobs.set j (setQ (nth s.jobs j) a (ptrB ⟨p.kind, p.seg, p.off, andI p.auth o.auth⟩) true), s.spaces⟩ ?_
 have hat := P.at_
 have h60 := F.t60
 have ha := P.a60
 have hjb := F.job
 have hb := fun (dst ptr object auth : Int) (data : ByteArray) => by4_ok (c := c) s j a dst ptr object auth data F.hjs F.sz.j F.sok (by omega) P.tag p P.ptr hn
 clear F P
 obtain ⟨kind, job, src, dst, pointer, object, auth, data⟩ := o
 simp only at *
 subst k0 hjb
 simp [atI] at hat
 subst hat
 exact hb _ _ _ _ _ hau
theorem rs_ok5 {c : Case} (h : Right c) (s : St) (o : COp) (hd0 : o.data.size ≤ 1000000) (j : Nat) (F : Fm c s o j) (k0 : o.kind = 5) (a m d : Nat) (p : Ptr) (P : Pt c s o j a p) (hn : p.kind = 1) (S : Spc c s p m) (hi : incB p.auth 128 = true) (hdt : o.dst = (d : Int)) (hd59 : d ≤ 59) : RS c s o (.agg (encSt ⟨s.jobs.set j (setQ (nth s.jobs j) d (ptrB ⟨0, p.seg, p.off, 0⟩) true), s.spaces⟩)) 0 := by
 refine rs_by_ok h s o hd0 j F (by omega) ⟨s.jobs.set j (setQ (nth s.jobs j) d (ptrB ⟨0, p.seg, p.off, 0⟩) true), s.spaces⟩ ?_
 have hat := P.at_
 have h60 := F.t60
 have ha := P.a60
 have hjb := F.job
 have hb := fun (dst ptr object auth : Int) (data : ByteArray) (e : dst = (d : Int)) => by5_ok (c := c) s j a dst ptr object auth data F.hjs F.sz.j F.sok (by omega) d e (by omega) P.tag p P.ptr hn S.sp hi
 clear F P
 obtain ⟨kind, job, src, dst, pointer, object, auth, data⟩ := o
 simp only at *
 subst k0 hjb
 simp [atI] at hat
 subst hat
 exact hb _ _ _ _ _ hdt
theorem rs_ok6 {c : Case} (h : Right c) (s : St) (o : COp) (hd0 : o.data.size ≤ 1000000) (j : Nat) (F : Fm c s o j) (k0 : o.kind = 6) (a m b d : Nat) (p : Ptr) (P : Pt c s o j a p) (hn : p.kind = 1) (S : Spc c s p m) (hi : incB p.auth 128 = true) (hsr : o.src = (b : Int)) (hb59 : b ≤ 59) (hdt : o.dst = (d : Int)) (hd59 : d ≤ 59) : RS c s o (.agg (encSt ⟨s.jobs, s.spaces.set m (setQ (nth s.spaces m) d (quadB (nth s.jobs j).bytes b) (nth (nth s.jobs j).tags b))⟩)) 0 := by
 refine rs_by_ok h s o hd0 j F (by omega) ⟨s.jobs, s.spaces.set m (setQ (nth s.spaces m) d (quadB (nth s.jobs j).bytes b) (nth (nth s.jobs j).tags b))⟩ ?_
 have hat := P.at_
 have h60 := F.t60
 have ha := P.a60
 have hjb := F.job
 have g60 := S.t60
 have hb := fun (src dst object auth : Int) (data : ByteArray) (e : src = (b : Int)) (e2 : dst = (d : Int)) => by6_ok (c := c) s j a src dst object auth data F.hjs F.sz.j F.sok (by omega) b d m e e2 (by omega) (by omega) F.sz.p S.hos S.sok.size (by omega) P.tag p P.ptr S.seg hn S.sp hi
 clear F P
 obtain ⟨kind, job, src, dst, pointer, object, auth, data⟩ := o
 simp only at *
 subst k0 hjb
 simp [atI] at hat
 subst hat
 exact hb _ _ _ _ _ hsr hdt
theorem rs_ok7 {c : Case} (h : Right c) (s : St) (o : COp) (hd0 : o.data.size ≤ 1000000) (j : Nat) (F : Fm c s o j) (k0 : o.kind = 7) (a m b d : Nat) (p : Ptr) (P : Pt c s o j a p) (hn : p.kind = 1) (S : Spc c s p m) (hi : incB p.auth 32 = true) (hsr : o.src = (b : Int)) (hb59 : b ≤ 59) (hdt : o.dst = (d : Int)) (hd59 : d ≤ 59) : RS c s o (.agg (encSt ⟨s.jobs.set j (setQ (nth s.jobs j) d (quadB (nth s.spaces m).bytes b) (nth (nth s.spaces m).tags b)), s.spaces⟩)) 0 := by
 refine rs_by_ok h s o hd0 j F (by omega) ⟨s.jobs.set j (setQ (nth s.jobs j) d (quadB (nth s.spaces m).bytes b) (nth (nth s.spaces m).tags b)), s.spaces⟩ ?_
 have hat := P.at_
 have h60 := F.t60
 have ha := P.a60
 have hjb := F.job
 have g60 := S.t60
 have hb := fun (src dst object auth : Int) (data : ByteArray) (e : src = (b : Int)) (e2 : dst = (d : Int)) => by7_ok (c := c) s j a src dst object auth data F.hjs F.sz.j F.sok (by omega) b d m e e2 (by omega) (by omega) F.sz.p S.hos S.sok.size (by omega) P.tag p P.ptr S.seg hn S.sp hi
 clear F P
 obtain ⟨kind, job, src, dst, pointer, object, auth, data⟩ := o
 simp only at *
 subst k0 hjb
 simp [atI] at hat
 subst hat
 exact hb _ _ _ _ _ hsr hdt
theorem rs_ok8 {c : Case} (h : Right c) (s : St) (o : COp) (hd0 : o.data.size ≤ 1000000) (j : Nat) (F : Fm c s o j) (k0 : o.kind = 8) (a m d : Nat) (p : Ptr) (P : Pt c s o j a p) (hn : p.kind = 0) (S : Spc c s p m) (hdt : o.dst = (d : Int)) (hdz : d + o.data.size ≤ 960) : RS c s o (.agg (encSt ⟨s.jobs, s.spaces.set m (wrS (nth s.spaces m) d o.data)⟩)) 0 := by
 refine rs_by_ok h s o hd0 j F (by omega) ⟨s.jobs, s.spaces.set m (wrS (nth s.spaces m) d o.data)⟩ ?_
 have hat := P.at_
 have h60 := F.t60
 have ha := P.a60
 have hjb := F.job
 have g60 := S.t60
 have gz := S.sok.size
 have hb := fun (src dst object auth : Int) (data : ByteArray) (e2 : dst = (d : Int)) (hw : d + data.size ≤ 960) => by8_ok (c := c) s j a src dst object auth data F.hjs F.sz.j F.sok (by omega) d m e2 F.sz.p S.hos gz (by omega) (by omega) (by omega) P.tag p P.ptr S.seg hn S.sp
 clear F P
 obtain ⟨kind, job, src, dst, pointer, object, auth, data⟩ := o
 simp only at *
 subst k0 hjb
 simp [atI] at hat
 subst hat
 exact hb _ _ _ _ _ hdt hdz
theorem rstep_good {c : Case} (h : Right c) {s : St} (hv : StV (cc c) s) (o : COp) (hd0 : o.data.size ≤ 1000000) : RS c s o (stR (stepS (cc c) s o)) (stepS (cc c) s o).2 := by
 have hJ := h.J
 have hO := h.O
 refine step_all h hv (A := fun r e => RS c s o r e) ?_
 exact {
  kind := fun a => rs_kind c s o a
  job := fun a b => rs_job c s o a b (by omega)
  bad := fun a b d => rs_bad c s o a b (by omega) (by omega) hd0 d
  no0 := fun j k d F k0 a b e f g => rs_no0 h s o hd0 j F k0 k d a b e f g
  ok0 := fun j k d F k0 a b e f g i => rs_ok0 h s o hd0 j F k0 k d a b e f g i
  ok1 := fun j d F k0 a b => rs_ok1 h s o hd0 j F k0 d a b
  ok2 := fun j a d F k0 x y z w => rs_ok2 h s o hd0 j F k0 a d x y z w
  ok3 := fun j a d F k0 x y z w => rs_ok3 h s o hd0 j F k0 a d x y z w
  tag := fun j a F k4 x y z => rs_by_no h s o hd0 j F k4 22 (by_tag s o j a F.job ⟨k4, F.kind.2⟩ x F.hjs F.sz.j F.sok (by have := F.t60; omega) z)
  pkind := fun j a p F k4 P hn => rs_by_no h s o hd0 j F k4 17 (by_kind s o j a p F.job ⟨k4, F.kind.2⟩ P.at_ F.hjs F.sz.j F.sok (by have := F.t60; have := P.a60; omega) P.tag P.ptr hn)
  space := fun j a p F k5 P hn hrg hsp => rs_by_no h s o hd0 j F (by omega) 17 (by_space s o j a p F.job ⟨k5, F.kind.2⟩ P.at_ F.hjs F.sz.j F.sok (by have := F.t60; have := P.a60; omega) P.tag P.ptr hn hrg hsp)
  auth := fun j a m p F k5 k7 P hn S hi => rs_by_no h s o hd0 j F (by omega) 23 (by_auth s o j a p F.job ⟨k5, k7⟩ P.at_ F.hjs F.sz.j F.sok (by have := F.t60; have := P.a60; omega) P.tag P.ptr hn S.sp hi)
  ok4 := fun j a p F k0 P hn hau => rs_ok4 h s o hd0 j F k0 a p P hn hau
  ok5 := fun j a m d p F k0 P hn S hi x y => rs_ok5 h s o hd0 j F k0 a m d p P hn S hi x y
  ok6 := fun j a m b d p F k0 P hn S hi x y z w => rs_ok6 h s o hd0 j F k0 a m b d p P hn S hi x y z w
  ok7 := fun j a m b d p F k0 P hn S hi x y z w => rs_ok7 h s o hd0 j F k0 a m b d p P hn S hi x y z w
  ok8 := fun j a m d p F k0 P hn S x y => rs_ok8 h s o hd0 j F k0 a m d p P hn S x y }
end Go.Proofs.YtbhgehhmjpipiaaGreatDoor.C12
