/- Chapter 12: the pointer that an operation uses, by the program. -/
import Derived.Test.YtbhgehhmjpipiaaGreatDoorT4
set_option linter.unusedSimpArgs false
set_option linter.unusedVariables false
namespace Go.Proofs.YtbhgehhmjpipiaaGreatDoor.C12
open Go Go.Proofs Go.Proofs.YtbhgehhmjpipiaaGreatDoor.Ab Go.Proofs.YtbhgehhmjpipiaaGreatDoor.C10
set_option maxRecDepth 100000
attribute [local congr] ite_ctx
theorem pointerOf_good (o : COp) (hk : 4 ≤ o.kind ∧ o.kind ≤ 8) : Ans Tryz.prog 116 [.agg (encCOp o)] (.tup [.int .i64 (atI o), .int .i64 (kdI o), .int .i64 (needI o), .bool true]) := by
 obtain ⟨kind, job, src, dst, pointer, object, auth, data⟩ := o
 simp only at hk
 have h : kind = 4 ∨ kind = 5 ∨ kind = 6 ∨ kind = 7 ∨ kind = 8 := by omega
 rcases h with rfl | rfl | rfl | rfl | rfl
 all_goals
  refine good_run [] mixed Tryz.func116 rfl Tryz.ntmps116 (rs := [.tmp 2, .tmp 3, .tmp 4, .tmp 5]) rfl (by decide +kernel) (by kernel_rfl) rfl ?_
  rw [startE_eq 28 _ _ _ rfl rfl]
  simp only [go_sem, seval]
  exact ⟨rfl, rfl, rfl⟩
theorem pointerOf_none (o : COp) (hk : 0 ≤ o.kind ∧ o.kind ≤ 3) : Ans Tryz.prog 116 [.agg (encCOp o)] (.tup [.int .i64 0, .int .i64 0, .int .i64 0, .bool false]) := by
 have h4 : (o.kind = 4) = False := eq_false (by omega)
 have h5 : (o.kind = 5) = False := eq_false (by omega)
 have h6 : (o.kind = 6) = False := eq_false (by omega)
 have h7 : (o.kind = 7) = False := eq_false (by omega)
 have h8 : (o.kind = 8) = False := eq_false (by omega)
 refine good_run [] mixed Tryz.func116 rfl Tryz.ntmps116 (rs := [.tmp 2, .tmp 3, .tmp 4, .tmp 5]) rfl (by decide +kernel) (by kernel_rfl) rfl ?_
 rw [startE_eq 28 _ _ _ rfl rfl]
 simp only [go_sem, seval, h4, h5, h6, h7, h8, decide_false]
theorem used_none (c : Case) (x : Stg) (o : COp) (hk : 0 ≤ o.kind ∧ o.kind ≤ 3) : Ans Tryz.prog 72 [.agg (encCase c), .agg (encStg x), .agg (encCOp o)] (.tup [.agg [.int .i64 0, .int .i64 0, .int .i64 0, .int .i64 0], .int .i64 0]) := by
 have hP := pointerOf_none o hk
 refine good_run [] mixed Tryz.func72 rfl Tryz.ntmps72 (rs := [.cell 6 97, .tmp 7]) rfl (by decide +kernel) (by kernel_rfl) rfl ?_
 rw [startE_eq 65 _ _ _ rfl rfl]
 simp only [go_sem, seval]
 refine call_of (hP) ?_
 simp only [go_sem, seval, Bool.not_false]
theorem first17 (y : Int) : Ans Tryz.prog 33 [.sl [[.int .i64 17], [.int .i64 y]]] (.int .i64 17) := by have := pfirst2_good 17 y; simpa [firstE] using this
theorem at16 {o : COp} {a : Nat} (ha : atI o = (a : Int)) (h : a ≤ 59) : IntKind.wrap .i64 (atI o * 16) = ((16 * a : Nat) : Int) := by rw [ha, wrap_i64 (by omega) (by omega)]; omega
theorem used_tag (c : Case) (x : Stg) (hx : SGood x) (o : COp) (hk : 4 ≤ o.kind ∧ o.kind ≤ 8) (a : Nat) (ha : atI o = (a : Int)) (h59 : a ≤ 59) (hat : a < x.tags.length) (ht : nth x.tags a = false) : Ans Tryz.prog 72 [.agg (encCase c), .agg (encStg x), .agg (encCOp o)] (.tup [.agg [.int .i64 0, .int .i64 0, .int .i64 0, .int .i64 0], .int .i64 22]) := by
 have hP := pointerOf_good o hk
 have w1 := at16 ha h59
 have hL := LoadPtr_no x hx a hat ht
 generalize ((16 * a : Nat) : Int) = aa at w1 hL
 refine good_run [] mixed Tryz.func72 rfl Tryz.ntmps72 (rs := [.cell 6 97, .tmp 7]) rfl (by decide +kernel) (by kernel_rfl) rfl ?_
 rw [startE_eq 65 _ _ _ rfl rfl]
 simp only [go_sem, seval]
 refine call_of (hP) ?_
 simp only [go_sem, seval, Bool.not_true, w1]
 refine call_of (hL) ?_
 simp only [go_sem, seval]
set_option maxHeartbeats 4000000 in
theorem used_kind (c : Case) (hO : c.sec.objects.length ≤ 1000000) (x : Stg) (hx : SGood x) (o : COp) (hk : 4 ≤ o.kind ∧ o.kind ≤ 8) (a : Nat) (ha : atI o = (a : Int)) (h59 : a ≤ 59) (hat : a < x.tags.length) (ht : nth x.tags a = true) (p : Ptr) (hp : (ptrIn (quadB x.bytes a)).1 = p) (hn : ¬ p.kind = kdI o) : Ans Tryz.prog 72 [.agg (encCase c), .agg (encStg x), .agg (encCOp o)] (.tup [.agg (encPtr p), .int .i64 17]) := by
 have hP := pointerOf_good o hk
 have w1 := at16 ha h59
 have hL := LoadPtr_good x hx.sok hx.ste a hat ht
 have hpe := ptrE_ok.1 (ptrIn_err (hx.sok.ptr a hat ht))
 rw [hp] at hL hpe
 have w3 : IntKind.wrap .i64 (p.seg - 1) = p.seg - 1 := wrap_i64 (by omega) (by omega)
 have hI := isSpace_good c (p.seg - 1) hO
 generalize spB c (p.seg - 1) = b at hI
 have hN := pinc_good p.auth (needI o)
 generalize incB p.auth (needI o) = i at hN
 have hC := condT 17
 have hD := pcond_good (!i) 23
 generalize (if (!i) = true then (23 : Int) else 0) = y at hD
 have hF := first17 y
 have hnt := eq_false hn
 generalize ((16 * a : Nat) : Int) = aa at w1 hL
 refine Classical.byCases (fun h4 : o.kind = 4 => ?_) fun h4 => ?_
 · have h4t := eq_true h4
   refine good_run [] mixed Tryz.func72 rfl Tryz.ntmps72 (rs := [.cell 6 97, .tmp 7]) rfl (by decide +kernel) (by kernel_rfl) rfl ?_
   rw [startE_eq 65 _ _ _ rfl rfl]
   simp only [go_sem, seval]
   refine call_of (hP) ?_
   simp only [go_sem, seval, Bool.not_true, w1]
   refine call_of (hL) ?_
   simp only [go_sem, seval, h4t, decide_true, hnt, not_false_eq_true]
   refine callD_of (hC) ?_
   simp only [go_sem, seval]
   refine callD_of (hN) ?_
   simp only [go_sem, seval]
   refine callD_of (hD) ?_
   simp only [go_sem, seval]
   refine callD_of (hF) ?_
   simp only [go_sem, seval]
   decide +kernel
 · have h4t := eq_false h4
   refine good_run [] mixed Tryz.func72 rfl Tryz.ntmps72 (rs := [.cell 6 97, .tmp 7]) rfl (by decide +kernel) (by kernel_rfl) rfl ?_
   rw [startE_eq 65 _ _ _ rfl rfl]
   simp only [go_sem, seval]
   refine call_of (hP) ?_
   simp only [go_sem, seval, Bool.not_true, w1]
   refine call_of (hL) ?_
   simp only [go_sem, seval, h4t, decide_false, w3]
   refine call_of (hI) ?_
   simp only [go_sem, seval, hnt, not_false_eq_true, decide_true]
   refine callD_of (hC) ?_
   simp only [go_sem, seval]
   refine callD_of (hN) ?_
   simp only [go_sem, seval]
   refine callD_of (hD) ?_
   simp only [go_sem, seval]
   refine callD_of (hF) ?_
   simp only [go_sem, seval]
   decide +kernel
set_option maxHeartbeats 4000000 in
theorem used_space (c : Case) (hO : c.sec.objects.length ≤ 1000000) (x : Stg) (hx : SGood x) (o : COp) (hk : 5 ≤ o.kind ∧ o.kind ≤ 8) (a : Nat) (ha : atI o = (a : Int)) (h59 : a ≤ 59) (hat : a < x.tags.length) (ht : nth x.tags a = true) (p : Ptr) (hp : (ptrIn (quadB x.bytes a)).1 = p) (hn : p.kind = kdI o) (hsp : spB c (p.seg - 1) = false) : Ans Tryz.prog 72 [.agg (encCase c), .agg (encStg x), .agg (encCOp o)] (.tup [.agg (encPtr p), .int .i64 17]) := by
 have hP := pointerOf_good o ⟨by omega, hk.2⟩
 have w1 := at16 ha h59
 have hL := LoadPtr_good x hx.sok hx.ste a hat ht
 have hpe := ptrE_ok.1 (ptrIn_err (hx.sok.ptr a hat ht))
 rw [hp] at hL hpe
 have w3 : IntKind.wrap .i64 (p.seg - 1) = p.seg - 1 := wrap_i64 (by omega) (by omega)
 have hI := isSpace_good c (p.seg - 1) hO
 rw [hsp] at hI
 have hN := pinc_good p.auth (needI o)
 generalize incB p.auth (needI o) = i at hN
 have hC := condT 17
 have hD := pcond_good (!i) 23
 generalize (if (!i) = true then (23 : Int) else 0) = y at hD
 have hF := first17 y
 have hnt := eq_true hn
 have h4t : (o.kind = 4) = False := eq_false (by omega)
 generalize ((16 * a : Nat) : Int) = aa at w1 hL
 refine good_run [] mixed Tryz.func72 rfl Tryz.ntmps72 (rs := [.cell 6 97, .tmp 7]) rfl (by decide +kernel) (by kernel_rfl) rfl ?_
 rw [startE_eq 65 _ _ _ rfl rfl]
 simp only [go_sem, seval]
 refine call_of (hP) ?_
 simp only [go_sem, seval, Bool.not_true, w1]
 refine call_of (hL) ?_
 simp only [go_sem, seval, h4t, decide_false, w3]
 refine call_of (hI) ?_
 simp only [go_sem, seval, hnt, not_true_eq_false, decide_false, Bool.not_false]
 refine callD_of (hC) ?_
 simp only [go_sem, seval]
 refine callD_of (hN) ?_
 simp only [go_sem, seval]
 refine callD_of (hD) ?_
 simp only [go_sem, seval]
 refine callD_of (hF) ?_
 simp only [go_sem, seval]
 decide +kernel
set_option maxHeartbeats 4000000 in
theorem used_end (c : Case) (hO : c.sec.objects.length ≤ 1000000) (x : Stg) (hx : SGood x) (o : COp) (hk : 4 ≤ o.kind ∧ o.kind ≤ 8) (a : Nat) (ha : atI o = (a : Int)) (h59 : a ≤ 59) (hat : a < x.tags.length) (ht : nth x.tags a = true) (p : Ptr) (hp : (ptrIn (quadB x.bytes a)).1 = p) (hn : p.kind = kdI o) (hsp : o.kind = 4 ∨ spB c (p.seg - 1) = true) (i : Bool) (hi : incB p.auth (needI o) = i) : Ans Tryz.prog 72 [.agg (encCase c), .agg (encStg x), .agg (encCOp o)] (.tup [.agg (encPtr p), .int .i64 (if (!i) = true then 23 else 0)]) := by
 have hP := pointerOf_good o hk
 have w1 := at16 ha h59
 have hL := LoadPtr_good x hx.sok hx.ste a hat ht
 have hpe := ptrE_ok.1 (ptrIn_err (hx.sok.ptr a hat ht))
 rw [hp] at hL hpe
 have w3 : IntKind.wrap .i64 (p.seg - 1) = p.seg - 1 := wrap_i64 (by omega) (by omega)
 have hN := pinc_good p.auth (needI o)
 rw [hi] at hN
 have hC := condF 17
 have hD := pcond_good (!i) 23
 generalize (if (!i) = true then (23 : Int) else 0) = y at hD
 have hF := first2_0 y
 have hnt := eq_true hn
 generalize ((16 * a : Nat) : Int) = aa at w1 hL
 refine Classical.byCases (fun h4 : o.kind = 4 => ?_) fun h4 => ?_
 · have h4t := eq_true h4
   refine good_run [] mixed Tryz.func72 rfl Tryz.ntmps72 (rs := [.cell 6 97, .tmp 7]) rfl (by decide +kernel) (by kernel_rfl) rfl ?_
   rw [startE_eq 65 _ _ _ rfl rfl]
   simp only [go_sem, seval]
   refine call_of (hP) ?_
   simp only [go_sem, seval, Bool.not_true, w1]
   refine call_of (hL) ?_
   simp only [go_sem, seval, h4t, decide_true, hnt, not_true_eq_false, decide_false, Bool.not_true]
   refine callD_of (hC) ?_
   simp only [go_sem, seval]
   refine callD_of (hN) ?_
   simp only [go_sem, seval]
   refine callD_of (hD) ?_
   simp only [go_sem, seval]
   refine callD_of (hF) ?_
   simp only [go_sem, seval]
   decide +kernel
 · have h4t := eq_false h4
   have hI := isSpace_good c (p.seg - 1) hO
   rw [hsp.resolve_left h4] at hI
   refine good_run [] mixed Tryz.func72 rfl Tryz.ntmps72 (rs := [.cell 6 97, .tmp 7]) rfl (by decide +kernel) (by kernel_rfl) rfl ?_
   rw [startE_eq 65 _ _ _ rfl rfl]
   simp only [go_sem, seval]
   refine call_of (hP) ?_
   simp only [go_sem, seval, Bool.not_true, w1]
   refine call_of (hL) ?_
   simp only [go_sem, seval, h4t, decide_false, w3]
   refine call_of (hI) ?_
   simp only [go_sem, seval, hnt, not_true_eq_false, decide_false, Bool.not_true]
   refine callD_of (hC) ?_
   simp only [go_sem, seval]
   refine callD_of (hN) ?_
   simp only [go_sem, seval]
   refine callD_of (hD) ?_
   simp only [go_sem, seval]
   refine callD_of (hF) ?_
   simp only [go_sem, seval]
   decide +kernel
set_option maxRecDepth 100000
abbrev PS (c : Case) (s : St) (o : COp) (r : AV) (e : Int) : Prop := Ans Tryz.prog 37 [.agg (encCase c), .agg (encSt s), .agg (encCOp o)] (.tup [r, .int .i64 e])
theorem first4y (y : Int) (a : Int) (h : ¬ a = 0) : Ans Tryz.prog 33 [.sl [[.int .i64 a], [.int .i64 y]]] (.int .i64 a) := by have := pfirst2_good a y; simpa [firstE, h] using this
theorem ps_kind (c : Case) (s : St) (o : COp) (hk : ¬ (0 ≤ o.kind ∧ o.kind ≤ 8)) (hu : c.users.length ≤ 1000) : PS c s o (.agg [.nils, .nils]) 4 := by
 have h1 := pin_good o.kind 0 8
 rw [show inB o.kind 0 8 = false by unfold inB; exact decide_eq_false hk] at h1
 have h2 := pin_good o.job 0 ((c.users.length : Int) - 1)
 have hc := condT 4
 generalize inB o.job 0 ((c.users.length : Int) - 1) = b at h2
 have hd := pcond_good (!b) 3
 generalize (if (!b) = true then (3 : Int) else 0) = y at hd
 have hf := first4y y 4 (by decide)
 have w1 : IntKind.wrap .i64 ((c.users.length : Int) - 1) = (c.users.length : Int) - 1 := wrap_i64 (by omega) (by omega)
 refine good_run [] mixed Tryz.func37 rfl Tryz.ntmps37 (rs := [.cell 6 37, .tmp 7]) rfl (by decide +kernel) (by kernel_rfl) rfl ?_
 rw [startE_eq 241 _ _ _ rfl rfl]
 simp only [go_sem, seval]
 refine callD_of (h1) ?_
 simp only [go_sem, seval, Bool.not_false, w1]
 refine callD_of (hc) ?_
 simp only [go_sem, seval, w1]
 refine callD_of (h2) ?_
 simp only [go_sem, seval, w1]
 refine callD_of (hd) ?_
 simp only [go_sem, seval]
 refine callD_of (hf) ?_
 simp only [go_sem, seval]
 decide +kernel
theorem ps_job (c : Case) (s : St) (o : COp) (hk : 0 ≤ o.kind ∧ o.kind ≤ 8) (hj : ¬ (0 ≤ o.job ∧ o.job < (c.users.length : Int))) (hu : c.users.length ≤ 1000) : PS c s o (.agg [.nils, .nils]) 3 := by
 have h1 := pin_good o.kind 0 8
 rw [show inB o.kind 0 8 = true by unfold inB; exact decide_eq_true hk] at h1
 have h2 := pin_good o.job 0 ((c.users.length : Int) - 1)
 rw [show inB o.job 0 ((c.users.length : Int) - 1) = false by unfold inB; exact decide_eq_false (by omega)] at h2
 have hc := condF 4
 have hd := condT 3
 have hf := first2_0 3
 have w1 : IntKind.wrap .i64 ((c.users.length : Int) - 1) = (c.users.length : Int) - 1 := wrap_i64 (by omega) (by omega)
 refine good_run [] mixed Tryz.func37 rfl Tryz.ntmps37 (rs := [.cell 6 37, .tmp 7]) rfl (by decide +kernel) (by kernel_rfl) rfl ?_
 rw [startE_eq 241 _ _ _ rfl rfl]
 simp only [go_sem, seval]
 refine callD_of (h1) ?_
 simp only [go_sem, seval, Bool.not_true, w1]
 refine callD_of (hc) ?_
 simp only [go_sem, seval, w1]
 refine callD_of (h2) ?_
 simp only [go_sem, seval, Bool.not_false, w1]
 refine callD_of (hd) ?_
 simp only [go_sem, seval]
 refine callD_of (hf) ?_
 simp only [go_sem, seval]
 decide +kernel
theorem ps_bad (c : Case) (s : St) (o : COp) (hk : 0 ≤ o.kind ∧ o.kind ≤ 8) (hj : 0 ≤ o.job ∧ o.job < (c.users.length : Int)) (hu : c.users.length ≤ 1000) (hO : c.sec.objects.length ≤ 1000) (hd0 : o.data.size ≤ 1000000) (hb : badF (cc c) o = true) : PS c s o (.agg [.nils, .nils]) 3 := by
 have h1 := pin_good o.kind 0 8
 rw [show inB o.kind 0 8 = true by unfold inB; exact decide_eq_true hk] at h1
 have h2 := pin_good o.job 0 ((c.users.length : Int) - 1)
 rw [show inB o.job 0 ((c.users.length : Int) - 1) = true by unfold inB; exact decide_eq_true (by omega)] at h2
 have hc := condF 4
 have hd := condF 3
 have hf := first2_0 0
 have hr := range_good c hO o hk hd0
 rw [hb, if_pos rfl] at hr
 have w1 : IntKind.wrap .i64 ((c.users.length : Int) - 1) = (c.users.length : Int) - 1 := wrap_i64 (by omega) (by omega)
 refine good_run [] mixed Tryz.func37 rfl Tryz.ntmps37 (rs := [.cell 6 37, .tmp 7]) rfl (by decide +kernel) (by kernel_rfl) rfl ?_
 rw [startE_eq 241 _ _ _ rfl rfl]
 simp only [go_sem, seval]
 refine callD_of (h1) ?_
 simp only [go_sem, seval, Bool.not_true, w1]
 refine callD_of (hc) ?_
 simp only [go_sem, seval, w1]
 refine callD_of (h2) ?_
 simp only [go_sem, seval, Bool.not_true, w1]
 refine callD_of (hd) ?_
 simp only [go_sem, seval]
 refine callD_of (hf) ?_
 simp only [go_sem, seval]
 refine ⟨by decide +kernel, ?_⟩
 refine call_of (hr) ?_
 simp only [go_sem, seval]
set_option maxHeartbeats 16000000 in
theorem ps_no0 {c : Case} (h : Right c) (s : St) (o : COp) (hd0 : o.data.size ≤ 1000000) (j : Nat) (F : Fm c s o j) (k0 : o.kind = 0) (k d : Nat) (hob : o.object = (k : Int)) (hdt : o.dst = (d : Int)) (hkO : k < c.sec.objects.length) (hd59 : d ≤ 59) (ha : auI c j k = 0) : PS c s o (.agg [.nils, .nils]) 23 := by
 have hJ := h.J
 have hO := h.O
 have hk := F.kind
 have hjb := F.job
 have hj := F.hj
 have hjs := F.hjs
 have hz := F.sz
 have h1 := pin_good o.kind 0 8
 rw [show inB o.kind 0 8 = true by unfold inB; exact decide_eq_true hk] at h1
 have h2 := pin_good o.job 0 ((c.users.length : Int) - 1)
 rw [show inB o.job 0 ((c.users.length : Int) - 1) = true by unfold inB; exact decide_eq_true (by omega)] at h2
 have hc := condF 4
 have hd := condF 3
 have hf := first2_0 0
 have hr := range_good c (by omega) o hk hd0
 rw [F.bad, if_neg (by decide)] at hr
 have w1 : IntKind.wrap .i64 ((c.users.length : Int) - 1) = (c.users.length : Int) - 1 := wrap_i64 (by omega) (by omega)
 have hm := ownM s hz.j hz.p
 have hjs2 : (j : Int) < (s.jobs.length : Int) := by omega
 have hj2 : (j : Int) < (c.users.length : Int) := by omega
 have hqj : (List.map encStg s.jobs)[j]? = some (encStg (nth s.jobs j)) := at_map hjs
 have hg : SGood (nth s.jobs j) := ⟨F.sok, F.ste⟩
 have hU := used_none c (nth s.jobs j) o (by omega)
 have wp : IntKind.wrap .i64 (0 - 1) = -1 := by decide
 rw [hjb] at h2
 have hA := userAuthority_good h hj hkO
 have w2 : IntKind.wrap .i64 ((d : Int) * 16) = ((16 * d : Nat) : Int) := by rw [wrap_i64 (by omega) (by omega)]; omega
 have w3 : IntKind.wrap .i64 ((k : Int) + 1) = (k : Int) + 1 := wrap_i64 (by omega) (by omega)
 rw [ha] at hA
 obtain ⟨kind, job, src, dst, pointer, object, auth, data⟩ := o
 simp only at *
 subst k0 hjb
 subst hob hdt
 refine good_run [] mixed Tryz.func37 rfl Tryz.ntmps37 (rs := [.cell 6 37, .tmp 7]) rfl (by decide +kernel) (by kernel_rfl) rfl ?_
 rw [startE_eq 241 _ _ _ rfl rfl]
 simp only [go_sem, seval]
 refine callD_of (h1) ?_
 simp only [go_sem, seval, Bool.not_true, w1]
 refine callD_of (hc) ?_
 simp only [go_sem, seval, w1]
 refine callD_of (h2) ?_
 simp only [go_sem, seval, Bool.not_true, w1]
 refine callD_of (hd) ?_
 simp only [go_sem, seval]
 refine callD_of (hf) ?_
 simp only [go_sem, seval]
 refine ⟨by decide +kernel, ?_⟩
 refine call_of (hr) ?_
 simp only [go_sem, seval]
 refine callM_of [] [45, 44] (hm) ⟨rfl, rfl, rfl, by simp, by simp, by simp, by simp, rfl, rfl, rfl, onodup_of (l := [5, 8]) rfl (by decide)⟩ ?_
 simp only [go_sem, seval]
 simp only [go_sem, seval, hjs, hjs2, hqj, Option.map_some, Int.toNat_natCast]
 refine callD_of (hU) ?_
 simp only [go_sem, seval, wp, w2]
 refine ⟨by decide +kernel, ?_⟩
 refine call_of (hA) ?_
 simp only [go_sem, seval]
set_option maxHeartbeats 16000000 in
theorem ps_ok0 {c : Case} (h : Right c) (s : St) (o : COp) (hd0 : o.data.size ≤ 1000000) (j : Nat) (F : Fm c s o j) (k0 : o.kind = 0) (k d : Nat) (hob : o.object = (k : Int)) (hdt : o.dst = (d : Int)) (hkO : k < c.sec.objects.length) (hd59 : d ≤ 59) (ha : ¬ auI c j k = 0) (har : 0 ≤ auI c j k ∧ auI c j k ≤ 1023) : PS c s o (.agg (encSt ⟨s.jobs.set j (setQ (nth s.jobs j) d (ptrB ⟨1, (k : Int) + 1, 0, auI c j k⟩) true), s.spaces⟩)) 0 := by
 have hJ := h.J
 have hO := h.O
 have hk := F.kind
 have hjb := F.job
 have hj := F.hj
 have hjs := F.hjs
 have hz := F.sz
 have h1 := pin_good o.kind 0 8
 rw [show inB o.kind 0 8 = true by unfold inB; exact decide_eq_true hk] at h1
 have h2 := pin_good o.job 0 ((c.users.length : Int) - 1)
 rw [show inB o.job 0 ((c.users.length : Int) - 1) = true by unfold inB; exact decide_eq_true (by omega)] at h2
 have hc := condF 4
 have hd := condF 3
 have hf := first2_0 0
 have hr := range_good c (by omega) o hk hd0
 rw [F.bad, if_neg (by decide)] at hr
 have w1 : IntKind.wrap .i64 ((c.users.length : Int) - 1) = (c.users.length : Int) - 1 := wrap_i64 (by omega) (by omega)
 have hm := ownM s hz.j hz.p
 have hjs2 : (j : Int) < (s.jobs.length : Int) := by omega
 have hj2 : (j : Int) < (c.users.length : Int) := by omega
 have hqj : (List.map encStg s.jobs)[j]? = some (encStg (nth s.jobs j)) := at_map hjs
 have hg : SGood (nth s.jobs j) := ⟨F.sok, F.ste⟩
 have hU := used_none c (nth s.jobs j) o (by omega)
 have wp : IntKind.wrap .i64 (0 - 1) = -1 := by decide
 rw [hjb] at h2
 have hA := userAuthority_good h hj hkO
 have w2 : IntKind.wrap .i64 ((d : Int) * 16) = ((16 * d : Nat) : Int) := by rw [wrap_i64 (by omega) (by omega)]; omega
 have w3 : IntKind.wrap .i64 ((k : Int) + 1) = (k : Int) + 1 := wrap_i64 (by omega) (by omega)
 have hS := StoreP_good (nth s.jobs j) hg d ⟨1, (k : Int) + 1, 0, auI c j k⟩ (ptrE_ok.2 ⟨by simp only; omega, by simp only; omega, by simp only; omega, har, .inl rfl⟩) (by have := F.t60; omega)
 have hpe : encPtr ⟨1, (k : Int) + 1, 0, auI c j k⟩ = [.int .i64 1, .int .i64 ((k : Int) + 1), .int .i64 0, .int .i64 (auI c j k)] := rfl
 rw [hpe] at hS
 have hat := eq_false ha
 generalize setQ (nth s.jobs j) d (ptrB ⟨1, (k : Int) + 1, 0, auI c j k⟩) true = X at hS
 generalize auI c j k = a at hA hS hat
 have hset2 : (s.jobs.map encStg).set j [.str X.bytes, .sl (X.tags.map encB)] = (s.jobs.set j X).map encStg := List.map_set.symm
 generalize ((16 * d : Nat) : Int) = dd at w2 hS
 obtain ⟨kind, job, src, dst, pointer, object, auth, data⟩ := o
 simp only at *
 subst k0 hjb
 subst hob hdt
 refine good_run [] mixed Tryz.func37 rfl Tryz.ntmps37 (rs := [.cell 6 37, .tmp 7]) rfl (by decide +kernel) (by kernel_rfl) rfl ?_
 rw [startE_eq 241 _ _ _ rfl rfl]
 simp only [go_sem, seval]
 refine callD_of (h1) ?_
 simp only [go_sem, seval, Bool.not_true, w1]
 refine callD_of (hc) ?_
 simp only [go_sem, seval, w1]
 refine callD_of (h2) ?_
 simp only [go_sem, seval, Bool.not_true, w1]
 refine callD_of (hd) ?_
 simp only [go_sem, seval]
 refine callD_of (hf) ?_
 simp only [go_sem, seval]
 refine ⟨by decide +kernel, ?_⟩
 refine call_of (hr) ?_
 simp only [go_sem, seval]
 refine callM_of [] [45, 44] (hm) ⟨rfl, rfl, rfl, by simp, by simp, by simp, by simp, rfl, rfl, rfl, onodup_of (l := [5, 8]) rfl (by decide)⟩ ?_
 simp only [go_sem, seval]
 simp only [go_sem, seval, hjs, hjs2, hqj, Option.map_some, Int.toNat_natCast]
 refine callD_of (hU) ?_
 simp only [go_sem, seval, wp, w2]
 refine ⟨by decide +kernel, ?_⟩
 refine call_of (hA) ?_
 simp only [go_sem, seval, hat, decide_false, w2, w3, hjs, hjs2, hqj, Option.map_some, Int.toNat_natCast]
 refine callD_of (hS) ?_
 simp only [go_sem, seval, hjs, hjs2, hqj, Option.map_some, Int.toNat_natCast, hset2]
 decide +kernel
set_option maxHeartbeats 16000000 in
theorem ps_ok1 {c : Case} (h : Right c) (s : St) (o : COp) (hd0 : o.data.size ≤ 1000000) (j : Nat) (F : Fm c s o j) (k0 : o.kind = 1) (d : Nat) (hdt : o.dst = (d : Int)) (hdz : d + o.data.size ≤ 960) : PS c s o (.agg (encSt ⟨s.jobs.set j (wrS (nth s.jobs j) d o.data), s.spaces⟩)) 0 := by
 have hJ := h.J
 have hO := h.O
 have hk := F.kind
 have hjb := F.job
 have hj := F.hj
 have hjs := F.hjs
 have hz := F.sz
 have h1 := pin_good o.kind 0 8
 rw [show inB o.kind 0 8 = true by unfold inB; exact decide_eq_true hk] at h1
 have h2 := pin_good o.job 0 ((c.users.length : Int) - 1)
 rw [show inB o.job 0 ((c.users.length : Int) - 1) = true by unfold inB; exact decide_eq_true (by omega)] at h2
 have hc := condF 4
 have hd := condF 3
 have hf := first2_0 0
 have hr := range_good c (by omega) o hk hd0
 rw [F.bad, if_neg (by decide)] at hr
 have w1 : IntKind.wrap .i64 ((c.users.length : Int) - 1) = (c.users.length : Int) - 1 := wrap_i64 (by omega) (by omega)
 have hm := ownM s hz.j hz.p
 have hjs2 : (j : Int) < (s.jobs.length : Int) := by omega
 have hj2 : (j : Int) < (c.users.length : Int) := by omega
 have hqj : (List.map encStg s.jobs)[j]? = some (encStg (nth s.jobs j)) := at_map hjs
 have hg : SGood (nth s.jobs j) := ⟨F.sok, F.ste⟩
 have hU := used_none c (nth s.jobs j) o (by omega)
 have wp : IntKind.wrap .i64 (0 - 1) = -1 := by decide
 rw [hjb] at h2
 have hS := WriteB_good (nth s.jobs j) hg (by have := F.t60; omega) d o.data (by have := F.t60; have := F.sok.size; omega)
 obtain ⟨kind, job, src, dst, pointer, object, auth, data⟩ := o
 simp only at *
 subst k0 hjb
 subst hdt
 generalize wrS (nth s.jobs j) d data = X at hS
 have hset2 : (s.jobs.map encStg).set j [.str X.bytes, .sl (X.tags.map encB)] = (s.jobs.set j X).map encStg := List.map_set.symm
 refine good_run [] mixed Tryz.func37 rfl Tryz.ntmps37 (rs := [.cell 6 37, .tmp 7]) rfl (by decide +kernel) (by kernel_rfl) rfl ?_
 rw [startE_eq 241 _ _ _ rfl rfl]
 simp only [go_sem, seval]
 refine callD_of (h1) ?_
 simp only [go_sem, seval, Bool.not_true, w1]
 refine callD_of (hc) ?_
 simp only [go_sem, seval, w1]
 refine callD_of (h2) ?_
 simp only [go_sem, seval, Bool.not_true, w1]
 refine callD_of (hd) ?_
 simp only [go_sem, seval]
 refine callD_of (hf) ?_
 simp only [go_sem, seval]
 refine ⟨by decide +kernel, ?_⟩
 refine call_of (hr) ?_
 simp only [go_sem, seval]
 refine callM_of [] [45, 44] (hm) ⟨rfl, rfl, rfl, by simp, by simp, by simp, by simp, rfl, rfl, rfl, onodup_of (l := [5, 8]) rfl (by decide)⟩ ?_
 simp only [go_sem, seval]
 simp only [go_sem, seval, hjs, hjs2, hqj, Option.map_some, Int.toNat_natCast]
 refine callD_of (hU) ?_
 simp only [go_sem, seval, wp, hjs, hjs2, hqj, Option.map_some, Int.toNat_natCast]
 refine ⟨by decide +kernel, ?_⟩
 refine callD_of (hS) ?_
 simp only [go_sem, seval, hjs, hjs2, hqj, Option.map_some, Int.toNat_natCast, hset2]
 decide +kernel
set_option maxHeartbeats 16000000 in
theorem ps_ok2 {c : Case} (h : Right c) (s : St) (o : COp) (hd0 : o.data.size ≤ 1000000) (j : Nat) (F : Fm c s o j) (k0 : o.kind = 2) (a d : Nat) (hsr : o.src = (a : Int)) (hdt : o.dst = (d : Int)) (ha59 : a ≤ 59) (hd59 : d ≤ 59) : PS c s o (.agg (encSt ⟨s.jobs.set j (setQ (nth s.jobs j) d (quadB (nth s.jobs j).bytes a) (nth (nth s.jobs j).tags a)), s.spaces⟩)) 0 := by
 have hJ := h.J
 have hO := h.O
 have hk := F.kind
 have hjb := F.job
 have hj := F.hj
 have hjs := F.hjs
 have hz := F.sz
 have h1 := pin_good o.kind 0 8
 rw [show inB o.kind 0 8 = true by unfold inB; exact decide_eq_true hk] at h1
 have h2 := pin_good o.job 0 ((c.users.length : Int) - 1)
 rw [show inB o.job 0 ((c.users.length : Int) - 1) = true by unfold inB; exact decide_eq_true (by omega)] at h2
 have hc := condF 4
 have hd := condF 3
 have hf := first2_0 0
 have hr := range_good c (by omega) o hk hd0
 rw [F.bad, if_neg (by decide)] at hr
 have w1 : IntKind.wrap .i64 ((c.users.length : Int) - 1) = (c.users.length : Int) - 1 := wrap_i64 (by omega) (by omega)
 have hm := ownM s hz.j hz.p
 have hjs2 : (j : Int) < (s.jobs.length : Int) := by omega
 have hj2 : (j : Int) < (c.users.length : Int) := by omega
 have hqj : (List.map encStg s.jobs)[j]? = some (encStg (nth s.jobs j)) := at_map hjs
 have hg : SGood (nth s.jobs j) := ⟨F.sok, F.ste⟩
 have hU := used_none c (nth s.jobs j) o (by omega)
 have wp : IntKind.wrap .i64 (0 - 1) = -1 := by decide
 rw [hjb] at h2
 have hS := CopyT_good (nth s.jobs j) hg a d (by have := F.t60; omega) (by have := F.t60; omega)
 have w2 : IntKind.wrap .i64 ((d : Int) * 16) = ((16 * d : Nat) : Int) := by rw [wrap_i64 (by omega) (by omega)]; omega
 have w3 : IntKind.wrap .i64 ((a : Int) * 16) = ((16 * a : Nat) : Int) := by rw [wrap_i64 (by omega) (by omega)]; omega
 generalize setQ (nth s.jobs j) d (quadB (nth s.jobs j).bytes a) (nth (nth s.jobs j).tags a) = X at hS
 generalize ((16 * d : Nat) : Int) = dd at w2 hS
 generalize ((16 * a : Nat) : Int) = aa at w3 hS
 have hset2 : (s.jobs.map encStg).set j [.str X.bytes, .sl (X.tags.map encB)] = (s.jobs.set j X).map encStg := List.map_set.symm
 obtain ⟨kind, job, src, dst, pointer, object, auth, data⟩ := o
 simp only at *
 subst k0 hjb
 subst hsr hdt
 refine good_run [] mixed Tryz.func37 rfl Tryz.ntmps37 (rs := [.cell 6 37, .tmp 7]) rfl (by decide +kernel) (by kernel_rfl) rfl ?_
 rw [startE_eq 241 _ _ _ rfl rfl]
 simp only [go_sem, seval]
 refine callD_of (h1) ?_
 simp only [go_sem, seval, Bool.not_true, w1]
 refine callD_of (hc) ?_
 simp only [go_sem, seval, w1]
 refine callD_of (h2) ?_
 simp only [go_sem, seval, Bool.not_true, w1]
 refine callD_of (hd) ?_
 simp only [go_sem, seval]
 refine callD_of (hf) ?_
 simp only [go_sem, seval]
 refine ⟨by decide +kernel, ?_⟩
 refine call_of (hr) ?_
 simp only [go_sem, seval]
 refine callM_of [] [45, 44] (hm) ⟨rfl, rfl, rfl, by simp, by simp, by simp, by simp, rfl, rfl, rfl, onodup_of (l := [5, 8]) rfl (by decide)⟩ ?_
 simp only [go_sem, seval]
 simp only [go_sem, seval, hjs, hjs2, hqj, Option.map_some, Int.toNat_natCast]
 refine callD_of (hU) ?_
 simp only [go_sem, seval, wp, w2, w3, hjs, hjs2, hqj, Option.map_some, Int.toNat_natCast]
 refine ⟨by decide +kernel, ?_⟩
 refine callD_of (hS) ?_
 simp only [go_sem, seval, hjs, hjs2, hqj, Option.map_some, Int.toNat_natCast, hset2]
 decide +kernel
set_option maxHeartbeats 16000000 in
theorem ps_ok3 {c : Case} (h : Right c) (s : St) (o : COp) (hd0 : o.data.size ≤ 1000000) (j : Nat) (F : Fm c s o j) (k0 : o.kind = 3) (a d : Nat) (hsr : o.src = (a : Int)) (hdt : o.dst = (d : Int)) (ha59 : a ≤ 59) (hd59 : d ≤ 59) : PS c s o (.agg (encSt ⟨s.jobs.set j (setQ (nth s.jobs j) d (quadB (nth s.jobs j).bytes a) false), s.spaces⟩)) 0 := by
 have hJ := h.J
 have hO := h.O
 have hk := F.kind
 have hjb := F.job
 have hj := F.hj
 have hjs := F.hjs
 have hz := F.sz
 have h1 := pin_good o.kind 0 8
 rw [show inB o.kind 0 8 = true by unfold inB; exact decide_eq_true hk] at h1
 have h2 := pin_good o.job 0 ((c.users.length : Int) - 1)
 rw [show inB o.job 0 ((c.users.length : Int) - 1) = true by unfold inB; exact decide_eq_true (by omega)] at h2
 have hc := condF 4
 have hd := condF 3
 have hf := first2_0 0
 have hr := range_good c (by omega) o hk hd0
 rw [F.bad, if_neg (by decide)] at hr
 have w1 : IntKind.wrap .i64 ((c.users.length : Int) - 1) = (c.users.length : Int) - 1 := wrap_i64 (by omega) (by omega)
 have hm := ownM s hz.j hz.p
 have hjs2 : (j : Int) < (s.jobs.length : Int) := by omega
 have hj2 : (j : Int) < (c.users.length : Int) := by omega
 have hqj : (List.map encStg s.jobs)[j]? = some (encStg (nth s.jobs j)) := at_map hjs
 have hg : SGood (nth s.jobs j) := ⟨F.sok, F.ste⟩
 have hU := used_none c (nth s.jobs j) o (by omega)
 have wp : IntKind.wrap .i64 (0 - 1) = -1 := by decide
 rw [hjb] at h2
 have hS := CopyB_good (nth s.jobs j) hg a d (by have := F.t60; omega) (by have := F.t60; omega)
 have w2 : IntKind.wrap .i64 ((d : Int) * 16) = ((16 * d : Nat) : Int) := by rw [wrap_i64 (by omega) (by omega)]; omega
 have w3 : IntKind.wrap .i64 ((a : Int) * 16) = ((16 * a : Nat) : Int) := by rw [wrap_i64 (by omega) (by omega)]; omega
 generalize setQ (nth s.jobs j) d (quadB (nth s.jobs j).bytes a) false = X at hS
 generalize ((16 * d : Nat) : Int) = dd at w2 hS
 generalize ((16 * a : Nat) : Int) = aa at w3 hS
 have hset2 : (s.jobs.map encStg).set j [.str X.bytes, .sl (X.tags.map encB)] = (s.jobs.set j X).map encStg := List.map_set.symm
 obtain ⟨kind, job, src, dst, pointer, object, auth, data⟩ := o
 simp only at *
 subst k0 hjb
 subst hsr hdt
 refine good_run [] mixed Tryz.func37 rfl Tryz.ntmps37 (rs := [.cell 6 37, .tmp 7]) rfl (by decide +kernel) (by kernel_rfl) rfl ?_
 rw [startE_eq 241 _ _ _ rfl rfl]
 simp only [go_sem, seval]
 refine callD_of (h1) ?_
 simp only [go_sem, seval, Bool.not_true, w1]
 refine callD_of (hc) ?_
 simp only [go_sem, seval, w1]
 refine callD_of (h2) ?_
 simp only [go_sem, seval, Bool.not_true, w1]
 refine callD_of (hd) ?_
 simp only [go_sem, seval]
 refine callD_of (hf) ?_
 simp only [go_sem, seval]
 refine ⟨by decide +kernel, ?_⟩
 refine call_of (hr) ?_
 simp only [go_sem, seval]
 refine callM_of [] [45, 44] (hm) ⟨rfl, rfl, rfl, by simp, by simp, by simp, by simp, rfl, rfl, rfl, onodup_of (l := [5, 8]) rfl (by decide)⟩ ?_
 simp only [go_sem, seval]
 simp only [go_sem, seval, hjs, hjs2, hqj, Option.map_some, Int.toNat_natCast]
 refine callD_of (hU) ?_
 simp only [go_sem, seval, wp, w2, w3, hjs, hjs2, hqj, Option.map_some, Int.toNat_natCast]
 refine ⟨by decide +kernel, ?_⟩
 refine callD_of (hS) ?_
 simp only [go_sem, seval, hjs, hjs2, hqj, Option.map_some, Int.toNat_natCast, hset2]
 decide +kernel
set_option maxHeartbeats 16000000 in
theorem ps_tag {c : Case} (h : Right c) (s : St) (o : COp) (hd0 : o.data.size ≤ 1000000) (j : Nat) (F : Fm c s o j) (k4 : 4 ≤ o.kind) (a : Nat) (hat : atI o = (a : Int)) (ha59 : a ≤ 59) (ht : nth (nth s.jobs j).tags a = false) : PS c s o (.agg [.nils, .nils]) 22 := by
 have hJ := h.J
 have hO := h.O
 have hk := F.kind
 have hjb := F.job
 have hj := F.hj
 have hjs := F.hjs
 have hz := F.sz
 have h1 := pin_good o.kind 0 8
 rw [show inB o.kind 0 8 = true by unfold inB; exact decide_eq_true hk] at h1
 have h2 := pin_good o.job 0 ((c.users.length : Int) - 1)
 rw [show inB o.job 0 ((c.users.length : Int) - 1) = true by unfold inB; exact decide_eq_true (by omega)] at h2
 have hc := condF 4
 have hd := condF 3
 have hf := first2_0 0
 have hr := range_good c (by omega) o hk hd0
 rw [F.bad, if_neg (by decide)] at hr
 have w1 : IntKind.wrap .i64 ((c.users.length : Int) - 1) = (c.users.length : Int) - 1 := wrap_i64 (by omega) (by omega)
 have hm := ownM s hz.j hz.p
 have hjs2 : (j : Int) < (s.jobs.length : Int) := by omega
 have hj2 : (j : Int) < (c.users.length : Int) := by omega
 have hqj : (List.map encStg s.jobs)[j]? = some (encStg (nth s.jobs j)) := at_map hjs
 have hg : SGood (nth s.jobs j) := ⟨F.sok, F.ste⟩
 have hU := used_tag c (nth s.jobs j) hg o ⟨k4, hk.2⟩ a hat ha59 (by have := F.t60; omega) ht
 rw [hjb] at h2
 obtain ⟨kind, job, src, dst, pointer, object, auth, data⟩ := o
 simp only at *
 subst hjb
 refine good_run [] mixed Tryz.func37 rfl Tryz.ntmps37 (rs := [.cell 6 37, .tmp 7]) rfl (by decide +kernel) (by kernel_rfl) rfl ?_
 rw [startE_eq 241 _ _ _ rfl rfl]
 simp only [go_sem, seval]
 refine callD_of (h1) ?_
 simp only [go_sem, seval, Bool.not_true, w1]
 refine callD_of (hc) ?_
 simp only [go_sem, seval, w1]
 refine callD_of (h2) ?_
 simp only [go_sem, seval, Bool.not_true, w1]
 refine callD_of (hd) ?_
 simp only [go_sem, seval]
 refine callD_of (hf) ?_
 simp only [go_sem, seval]
 refine ⟨by decide +kernel, ?_⟩
 refine call_of (hr) ?_
 simp only [go_sem, seval]
 refine callM_of [] [45, 44] (hm) ⟨rfl, rfl, rfl, by simp, by simp, by simp, by simp, rfl, rfl, rfl, onodup_of (l := [5, 8]) rfl (by decide)⟩ ?_
 simp only [go_sem, seval]
 simp only [go_sem, seval, hjs, hjs2, hqj, Option.map_some, Int.toNat_natCast]
 refine callD_of (hU) ?_
 simp only [go_sem, seval, Bool.not_true]
 decide +kernel
set_option maxHeartbeats 16000000 in
theorem ps_pkind {c : Case} (h : Right c) (s : St) (o : COp) (hd0 : o.data.size ≤ 1000000) (j : Nat) (F : Fm c s o j) (k4 : 4 ≤ o.kind) (a : Nat) (p : Ptr) (P : Pt c s o j a p) (hn : ¬ p.kind = kdI o) : PS c s o (.agg [.nils, .nils]) 17 := by
 have hJ := h.J
 have hO := h.O
 have hk := F.kind
 have hjb := F.job
 have hj := F.hj
 have hjs := F.hjs
 have hz := F.sz
 have h1 := pin_good o.kind 0 8
 rw [show inB o.kind 0 8 = true by unfold inB; exact decide_eq_true hk] at h1
 have h2 := pin_good o.job 0 ((c.users.length : Int) - 1)
 rw [show inB o.job 0 ((c.users.length : Int) - 1) = true by unfold inB; exact decide_eq_true (by omega)] at h2
 have hc := condF 4
 have hd := condF 3
 have hf := first2_0 0
 have hr := range_good c (by omega) o hk hd0
 rw [F.bad, if_neg (by decide)] at hr
 have w1 : IntKind.wrap .i64 ((c.users.length : Int) - 1) = (c.users.length : Int) - 1 := wrap_i64 (by omega) (by omega)
 have hm := ownM s hz.j hz.p
 have hjs2 : (j : Int) < (s.jobs.length : Int) := by omega
 have hj2 : (j : Int) < (c.users.length : Int) := by omega
 have hqj : (List.map encStg s.jobs)[j]? = some (encStg (nth s.jobs j)) := at_map hjs
 have hg : SGood (nth s.jobs j) := ⟨F.sok, F.ste⟩
 have hU := used_kind c (by omega) (nth s.jobs j) hg o ⟨k4, hk.2⟩ a P.at_ P.a60 (by have := F.t60; have := P.a60; omega) P.tag p P.ptr hn
 rw [hjb] at h2
 clear P hn
 obtain ⟨kind, job, src, dst, pointer, object, auth, data⟩ := o
 simp only at *
 subst hjb
 refine good_run [] mixed Tryz.func37 rfl Tryz.ntmps37 (rs := [.cell 6 37, .tmp 7]) rfl (by decide +kernel) (by kernel_rfl) rfl ?_
 rw [startE_eq 241 _ _ _ rfl rfl]
 simp only [go_sem, seval]
 refine callD_of (h1) ?_
 simp only [go_sem, seval, Bool.not_true, w1]
 refine callD_of (hc) ?_
 simp only [go_sem, seval, w1]
 refine callD_of (h2) ?_
 simp only [go_sem, seval, Bool.not_true, w1]
 refine callD_of (hd) ?_
 simp only [go_sem, seval]
 refine callD_of (hf) ?_
 simp only [go_sem, seval]
 refine ⟨by decide +kernel, ?_⟩
 refine call_of (hr) ?_
 simp only [go_sem, seval]
 refine callM_of [] [45, 44] (hm) ⟨rfl, rfl, rfl, by simp, by simp, by simp, by simp, rfl, rfl, rfl, onodup_of (l := [5, 8]) rfl (by decide)⟩ ?_
 simp only [go_sem, seval]
 simp only [go_sem, seval, hjs, hjs2, hqj, Option.map_some, Int.toNat_natCast]
 refine callD_of (hU) ?_
 simp only [go_sem, seval, Bool.not_true]
 decide +kernel
set_option maxHeartbeats 16000000 in
theorem ps_space {c : Case} (h : Right c) (s : St) (o : COp) (hd0 : o.data.size ≤ 1000000) (j : Nat) (F : Fm c s o j) (k4 : 4 ≤ o.kind) (a : Nat) (p : Ptr) (P : Pt c s o j a p) (k5 : 5 ≤ o.kind) (hn : p.kind = kdI o) (hsp : spB c (p.seg - 1) = false) : PS c s o (.agg [.nils, .nils]) 17 := by
 have hJ := h.J
 have hO := h.O
 have hk := F.kind
 have hjb := F.job
 have hj := F.hj
 have hjs := F.hjs
 have hz := F.sz
 have h1 := pin_good o.kind 0 8
 rw [show inB o.kind 0 8 = true by unfold inB; exact decide_eq_true hk] at h1
 have h2 := pin_good o.job 0 ((c.users.length : Int) - 1)
 rw [show inB o.job 0 ((c.users.length : Int) - 1) = true by unfold inB; exact decide_eq_true (by omega)] at h2
 have hc := condF 4
 have hd := condF 3
 have hf := first2_0 0
 have hr := range_good c (by omega) o hk hd0
 rw [F.bad, if_neg (by decide)] at hr
 have w1 : IntKind.wrap .i64 ((c.users.length : Int) - 1) = (c.users.length : Int) - 1 := wrap_i64 (by omega) (by omega)
 have hm := ownM s hz.j hz.p
 have hjs2 : (j : Int) < (s.jobs.length : Int) := by omega
 have hj2 : (j : Int) < (c.users.length : Int) := by omega
 have hqj : (List.map encStg s.jobs)[j]? = some (encStg (nth s.jobs j)) := at_map hjs
 have hg : SGood (nth s.jobs j) := ⟨F.sok, F.ste⟩
 have hU := used_space c (by omega) (nth s.jobs j) hg o ⟨k5, hk.2⟩ a P.at_ P.a60 (by have := F.t60; have := P.a60; omega) P.tag p P.ptr hn hsp
 rw [hjb] at h2
 clear P hn hsp
 obtain ⟨kind, job, src, dst, pointer, object, auth, data⟩ := o
 simp only at *
 subst hjb
 refine good_run [] mixed Tryz.func37 rfl Tryz.ntmps37 (rs := [.cell 6 37, .tmp 7]) rfl (by decide +kernel) (by kernel_rfl) rfl ?_
 rw [startE_eq 241 _ _ _ rfl rfl]
 simp only [go_sem, seval]
 refine callD_of (h1) ?_
 simp only [go_sem, seval, Bool.not_true, w1]
 refine callD_of (hc) ?_
 simp only [go_sem, seval, w1]
 refine callD_of (h2) ?_
 simp only [go_sem, seval, Bool.not_true, w1]
 refine callD_of (hd) ?_
 simp only [go_sem, seval]
 refine callD_of (hf) ?_
 simp only [go_sem, seval]
 refine ⟨by decide +kernel, ?_⟩
 refine call_of (hr) ?_
 simp only [go_sem, seval]
 refine callM_of [] [45, 44] (hm) ⟨rfl, rfl, rfl, by simp, by simp, by simp, by simp, rfl, rfl, rfl, onodup_of (l := [5, 8]) rfl (by decide)⟩ ?_
 simp only [go_sem, seval]
 simp only [go_sem, seval, hjs, hjs2, hqj, Option.map_some, Int.toNat_natCast]
 refine callD_of (hU) ?_
 simp only [go_sem, seval, Bool.not_true]
 decide +kernel
set_option maxHeartbeats 16000000 in
theorem ps_auth {c : Case} (h : Right c) (s : St) (o : COp) (hd0 : o.data.size ≤ 1000000) (j : Nat) (F : Fm c s o j) (k4 : 4 ≤ o.kind) (a : Nat) (p : Ptr) (P : Pt c s o j a p) (hn : p.kind = kdI o) (hsp : o.kind = 4 ∨ spB c (p.seg - 1) = true) (hi : incB p.auth (needI o) = false) : PS c s o (.agg [.nils, .nils]) 23 := by
 have hJ := h.J
 have hO := h.O
 have hk := F.kind
 have hjb := F.job
 have hj := F.hj
 have hjs := F.hjs
 have hz := F.sz
 have h1 := pin_good o.kind 0 8
 rw [show inB o.kind 0 8 = true by unfold inB; exact decide_eq_true hk] at h1
 have h2 := pin_good o.job 0 ((c.users.length : Int) - 1)
 rw [show inB o.job 0 ((c.users.length : Int) - 1) = true by unfold inB; exact decide_eq_true (by omega)] at h2
 have hc := condF 4
 have hd := condF 3
 have hf := first2_0 0
 have hr := range_good c (by omega) o hk hd0
 rw [F.bad, if_neg (by decide)] at hr
 have w1 : IntKind.wrap .i64 ((c.users.length : Int) - 1) = (c.users.length : Int) - 1 := wrap_i64 (by omega) (by omega)
 have hm := ownM s hz.j hz.p
 have hjs2 : (j : Int) < (s.jobs.length : Int) := by omega
 have hj2 : (j : Int) < (c.users.length : Int) := by omega
 have hqj : (List.map encStg s.jobs)[j]? = some (encStg (nth s.jobs j)) := at_map hjs
 have hg : SGood (nth s.jobs j) := ⟨F.sok, F.ste⟩
 have hU := used_end c (by omega) (nth s.jobs j) hg o ⟨k4, hk.2⟩ a P.at_ P.a60 (by have := F.t60; have := P.a60; omega) P.tag p P.ptr hn hsp false hi
 rw [Bool.not_false, if_pos rfl] at hU
 rw [hjb] at h2
 clear P hn hsp hi
 obtain ⟨kind, job, src, dst, pointer, object, auth, data⟩ := o
 simp only at *
 subst hjb
 refine good_run [] mixed Tryz.func37 rfl Tryz.ntmps37 (rs := [.cell 6 37, .tmp 7]) rfl (by decide +kernel) (by kernel_rfl) rfl ?_
 rw [startE_eq 241 _ _ _ rfl rfl]
 simp only [go_sem, seval]
 refine callD_of (h1) ?_
 simp only [go_sem, seval, Bool.not_true, w1]
 refine callD_of (hc) ?_
 simp only [go_sem, seval, w1]
 refine callD_of (h2) ?_
 simp only [go_sem, seval, Bool.not_true, w1]
 refine callD_of (hd) ?_
 simp only [go_sem, seval]
 refine callD_of (hf) ?_
 simp only [go_sem, seval]
 refine ⟨by decide +kernel, ?_⟩
 refine call_of (hr) ?_
 simp only [go_sem, seval]
 refine callM_of [] [45, 44] (hm) ⟨rfl, rfl, rfl, by simp, by simp, by simp, by simp, rfl, rfl, rfl, onodup_of (l := [5, 8]) rfl (by decide)⟩ ?_
 simp only [go_sem, seval]
 simp only [go_sem, seval, hjs, hjs2, hqj, Option.map_some, Int.toNat_natCast]
 refine callD_of (hU) ?_
 simp only [go_sem, seval, Bool.not_true]
 decide +kernel
set_option maxHeartbeats 16000000 in
theorem ps_ok4 {c : Case} (h : Right c) (s : St) (o : COp) (hd0 : o.data.size ≤ 1000000) (j : Nat) (F : Fm c s o j) (k0 : o.kind = 4) (a : Nat) (p : Ptr) (P : Pt c s o j a p) (hn : p.kind = 1) (hau : 0 ≤ o.auth ∧ o.auth ≤ 1023) : PS c s o (.agg (encSt ⟨s.jobs.set j (setQ (nth s.jobs j) a (ptrB ⟨p.kind, p.seg, p.off, andI p.auth o.auth⟩) true), s.spaces⟩)) 0 := by
 have hJ := h.J
 have hO := h.O
 have hk := F.kind
 have hjb := F.job
 have hj := F.hj
 have hjs := F.hjs
 have hz := F.sz
 have h1 := pin_good o.kind 0 8
 rw [show inB o.kind 0 8 = true by unfold inB; exact decide_eq_true hk] at h1
 have h2 := pin_good o.job 0 ((c.users.length : Int) - 1)
 rw [show inB o.job 0 ((c.users.length : Int) - 1) = true by unfold inB; exact decide_eq_true (by omega)] at h2
 have hc := condF 4
 have hd := condF 3
 have hf := first2_0 0
 have hr := range_good c (by omega) o hk hd0
 rw [F.bad, if_neg (by decide)] at hr
 have w1 : IntKind.wrap .i64 ((c.users.length : Int) - 1) = (c.users.length : Int) - 1 := wrap_i64 (by omega) (by omega)
 have hm := ownM s hz.j hz.p
 have hjs2 : (j : Int) < (s.jobs.length : Int) := by omega
 have hj2 : (j : Int) < (c.users.length : Int) := by omega
 have hqj : (List.map encStg s.jobs)[j]? = some (encStg (nth s.jobs j)) := at_map hjs
 have hg : SGood (nth s.jobs j) := ⟨F.sok, F.ste⟩
 have e1 : kdI o = 1 := by unfold kdI; rw [if_neg (by omega)]
 have e2 : needI o = 0 := by unfold needI; rw [if_pos (.inr k0)]
 have hU := used_end c (by omega) (nth s.jobs j) hg o ⟨by omega, hk.2⟩ a P.at_ P.a60 (by have := F.t60; have := P.a60; omega) P.tag p P.ptr (by rw [e1]; exact hn) (.inl k0) true (by rw [e2]; exact incB_zero (ptrE_ok.1 P.e).2.2.2.1)
 rw [Bool.not_true, if_neg (by decide)] at hU
 have hpe := ptrE_ok.1 P.e
 have ha60 := P.a60
 have hat := P.at_
 rw [hjb] at h2
 have w9 : IntKind.wrap .i64 (p.seg - 1) = p.seg - 1 := wrap_i64 (by omega) (by omega)
 have hsr : o.src = (a : Int) := by rw [← hat]; unfold atI; rw [if_pos (.inl k0)]
 have hrn := andI_rng hpe.2.2.2.1 hau
 have hS := StoreP_good (nth s.jobs j) hg a ⟨p.kind, p.seg, p.off, andI p.auth o.auth⟩ (ptrE_ok.2 ⟨by simp only; omega, by simp only; omega, by simp only; omega, by simp only; omega, .inl hn⟩) (by have := F.t60; omega)
 have hpe2 : encPtr ⟨p.kind, p.seg, p.off, andI p.auth o.auth⟩ = [.int .i64 p.kind, .int .i64 p.seg, .int .i64 p.off, .int .i64 (Go.bits .and .i64 p.auth o.auth)] := rfl
 rw [hpe2] at hS
 generalize setQ (nth s.jobs j) a (ptrB ⟨p.kind, p.seg, p.off, andI p.auth o.auth⟩) true = X at hS
 have w2 : IntKind.wrap .i64 ((a : Int) * 16) = ((16 * a : Nat) : Int) := by rw [wrap_i64 (by omega) (by omega)]; omega
 generalize ((16 * a : Nat) : Int) = aa at w2 hS
 have hset2 : (s.jobs.map encStg).set j [.str X.bytes, .sl (X.tags.map encB)] = (s.jobs.set j X).map encStg := List.map_set.symm
 clear P
 obtain ⟨kind, job, src, dst, pointer, object, auth, data⟩ := o
 simp only at *
 subst k0 hjb hsr
 refine good_run [] mixed Tryz.func37 rfl Tryz.ntmps37 (rs := [.cell 6 37, .tmp 7]) rfl (by decide +kernel) (by kernel_rfl) rfl ?_
 rw [startE_eq 241 _ _ _ rfl rfl]
 simp only [go_sem, seval]
 refine callD_of (h1) ?_
 simp only [go_sem, seval, Bool.not_true, w1]
 refine callD_of (hc) ?_
 simp only [go_sem, seval, w1]
 refine callD_of (h2) ?_
 simp only [go_sem, seval, Bool.not_true, w1]
 refine callD_of (hd) ?_
 simp only [go_sem, seval]
 refine callD_of (hf) ?_
 simp only [go_sem, seval]
 refine ⟨by decide +kernel, ?_⟩
 refine call_of (hr) ?_
 simp only [go_sem, seval]
 refine callM_of [] [45, 44] (hm) ⟨rfl, rfl, rfl, by simp, by simp, by simp, by simp, rfl, rfl, rfl, onodup_of (l := [5, 8]) rfl (by decide)⟩ ?_
 simp only [go_sem, seval]
 simp only [go_sem, seval, hjs, hjs2, hqj, Option.map_some, Int.toNat_natCast]
 refine callD_of (hU) ?_
 simp only [go_sem, seval, w9, w2, hjs, hjs2, hqj, Option.map_some, Int.toNat_natCast]
 refine ⟨by decide +kernel, ?_⟩
 refine callD_of (hS) ?_
 simp only [go_sem, seval, hjs, hjs2, hqj, Option.map_some, Int.toNat_natCast, hset2]
 decide +kernel
set_option maxHeartbeats 16000000 in
theorem ps_ok5 {c : Case} (h : Right c) (s : St) (o : COp) (hd0 : o.data.size ≤ 1000000) (j : Nat) (F : Fm c s o j) (k0 : o.kind = 5) (a m d : Nat) (p : Ptr) (P : Pt c s o j a p) (hn : p.kind = 1) (S : Spc c s p m) (hi : incB p.auth 128 = true) (hdt : o.dst = (d : Int)) (hd59 : d ≤ 59) : PS c s o (.agg (encSt ⟨s.jobs.set j (setQ (nth s.jobs j) d (ptrB ⟨0, p.seg, p.off, 0⟩) true), s.spaces⟩)) 0 := by
 have hJ := h.J
 have hO := h.O
 have hk := F.kind
 have hjb := F.job
 have hj := F.hj
 have hjs := F.hjs
 have hz := F.sz
 have h1 := pin_good o.kind 0 8
 rw [show inB o.kind 0 8 = true by unfold inB; exact decide_eq_true hk] at h1
 have h2 := pin_good o.job 0 ((c.users.length : Int) - 1)
 rw [show inB o.job 0 ((c.users.length : Int) - 1) = true by unfold inB; exact decide_eq_true (by omega)] at h2
 have hc := condF 4
 have hd := condF 3
 have hf := first2_0 0
 have hr := range_good c (by omega) o hk hd0
 rw [F.bad, if_neg (by decide)] at hr
 have w1 : IntKind.wrap .i64 ((c.users.length : Int) - 1) = (c.users.length : Int) - 1 := wrap_i64 (by omega) (by omega)
 have hm := ownM s hz.j hz.p
 have hjs2 : (j : Int) < (s.jobs.length : Int) := by omega
 have hj2 : (j : Int) < (c.users.length : Int) := by omega
 have hqj : (List.map encStg s.jobs)[j]? = some (encStg (nth s.jobs j)) := at_map hjs
 have hg : SGood (nth s.jobs j) := ⟨F.sok, F.ste⟩
 have e1 : kdI o = 1 := by unfold kdI; rw [if_neg (by omega)]
 have e2 : needI o = 128 := by unfold needI; rw [if_neg (by omega), if_neg (by omega)]
 have hU := used_end c (by omega) (nth s.jobs j) hg o ⟨by omega, hk.2⟩ a P.at_ P.a60 (by have := F.t60; have := P.a60; omega) P.tag p P.ptr (by rw [e1]; exact hn) (.inr S.sp) true (by rw [e2]; exact hi)
 rw [Bool.not_true, if_neg (by decide)] at hU
 have hpe := ptrE_ok.1 P.e
 have ha60 := P.a60
 have hat := P.at_
 rw [hjb] at h2
 have w9 : IntKind.wrap .i64 (p.seg - 1) = p.seg - 1 := wrap_i64 (by omega) (by omega)
 have hoff : p.off = 0 := P.ok.off
 have hS := StoreP_good (nth s.jobs j) hg d ⟨0, p.seg, p.off, 0⟩ (ptrE_ok.2 ⟨by simp only; omega, by simp only; omega, by simp only; omega, by simp only; omega, .inr rfl⟩) (by have := F.t60; omega)
 have hpe2 : encPtr ⟨0, p.seg, p.off, 0⟩ = [.int .i64 0, .int .i64 p.seg, .int .i64 0, .int .i64 0] := by unfold encPtr; rw [hoff]
 rw [hpe2] at hS
 generalize setQ (nth s.jobs j) d (ptrB ⟨0, p.seg, p.off, 0⟩) true = X at hS
 have w2 : IntKind.wrap .i64 ((d : Int) * 16) = ((16 * d : Nat) : Int) := by rw [wrap_i64 (by omega) (by omega)]; omega
 have w3 : IntKind.wrap .i64 (p.seg - 1 + 1) = p.seg := by rw [wrap_i64 (by omega) (by omega)]; omega
 generalize ((16 * d : Nat) : Int) = dd at w2 hS
 have hset2 : (s.jobs.map encStg).set j [.str X.bytes, .sl (X.tags.map encB)] = (s.jobs.set j X).map encStg := List.map_set.symm
 clear P
 obtain ⟨kind, job, src, dst, pointer, object, auth, data⟩ := o
 simp only at *
 subst k0 hjb hdt
 refine good_run [] mixed Tryz.func37 rfl Tryz.ntmps37 (rs := [.cell 6 37, .tmp 7]) rfl (by decide +kernel) (by kernel_rfl) rfl ?_
 rw [startE_eq 241 _ _ _ rfl rfl]
 simp only [go_sem, seval]
 refine callD_of (h1) ?_
 simp only [go_sem, seval, Bool.not_true, w1]
 refine callD_of (hc) ?_
 simp only [go_sem, seval, w1]
 refine callD_of (h2) ?_
 simp only [go_sem, seval, Bool.not_true, w1]
 refine callD_of (hd) ?_
 simp only [go_sem, seval]
 refine callD_of (hf) ?_
 simp only [go_sem, seval]
 refine ⟨by decide +kernel, ?_⟩
 refine call_of (hr) ?_
 simp only [go_sem, seval]
 refine callM_of [] [45, 44] (hm) ⟨rfl, rfl, rfl, by simp, by simp, by simp, by simp, rfl, rfl, rfl, onodup_of (l := [5, 8]) rfl (by decide)⟩ ?_
 simp only [go_sem, seval]
 simp only [go_sem, seval, hjs, hjs2, hqj, Option.map_some, Int.toNat_natCast]
 refine callD_of (hU) ?_
 simp only [go_sem, seval, w9, w2, w3, hjs, hjs2, hqj, Option.map_some, Int.toNat_natCast]
 refine ⟨by decide +kernel, ?_⟩
 refine callD_of (hS) ?_
 simp only [go_sem, seval, hjs, hjs2, hqj, Option.map_some, Int.toNat_natCast, hset2]
 decide +kernel
set_option maxHeartbeats 16000000 in
theorem ps_ok6 {c : Case} (h : Right c) (s : St) (o : COp) (hd0 : o.data.size ≤ 1000000) (j : Nat) (F : Fm c s o j) (k0 : o.kind = 6) (a m b d : Nat) (p : Ptr) (P : Pt c s o j a p) (hn : p.kind = 1) (S : Spc c s p m) (hi : incB p.auth 128 = true) (hsr : o.src = (b : Int)) (hb59 : b ≤ 59) (hdt : o.dst = (d : Int)) (hd59 : d ≤ 59) : PS c s o (.agg (encSt ⟨s.jobs, s.spaces.set m (setQ (nth s.spaces m) d (quadB (nth s.jobs j).bytes b) (nth (nth s.jobs j).tags b))⟩)) 0 := by
 have hJ := h.J
 have hO := h.O
 have hk := F.kind
 have hjb := F.job
 have hj := F.hj
 have hjs := F.hjs
 have hz := F.sz
 have h1 := pin_good o.kind 0 8
 rw [show inB o.kind 0 8 = true by unfold inB; exact decide_eq_true hk] at h1
 have h2 := pin_good o.job 0 ((c.users.length : Int) - 1)
 rw [show inB o.job 0 ((c.users.length : Int) - 1) = true by unfold inB; exact decide_eq_true (by omega)] at h2
 have hc := condF 4
 have hd := condF 3
 have hf := first2_0 0
 have hr := range_good c (by omega) o hk hd0
 rw [F.bad, if_neg (by decide)] at hr
 have w1 : IntKind.wrap .i64 ((c.users.length : Int) - 1) = (c.users.length : Int) - 1 := wrap_i64 (by omega) (by omega)
 have hm := ownM s hz.j hz.p
 have hjs2 : (j : Int) < (s.jobs.length : Int) := by omega
 have hj2 : (j : Int) < (c.users.length : Int) := by omega
 have hqj : (List.map encStg s.jobs)[j]? = some (encStg (nth s.jobs j)) := at_map hjs
 have hg : SGood (nth s.jobs j) := ⟨F.sok, F.ste⟩
 have e1 : kdI o = 1 := by unfold kdI; rw [if_neg (by omega)]
 have e2 : needI o = 128 := by unfold needI; rw [if_neg (by omega), if_neg (by omega)]
 have hU := used_end c (by omega) (nth s.jobs j) hg o ⟨by omega, hk.2⟩ a P.at_ P.a60 (by have := F.t60; have := P.a60; omega) P.tag p P.ptr (by rw [e1]; exact hn) (.inr S.sp) true (by rw [e2]; exact hi)
 rw [Bool.not_true, if_neg (by decide)] at hU
 have hpe := ptrE_ok.1 P.e
 have ha60 := P.a60
 have hat := P.at_
 rw [hjb] at h2
 have hos := S.hos
 have hos2 : (m : Int) < (s.spaces.length : Int) := by omega
 have hqo : (List.map encStg s.spaces)[m]? = some (encStg (nth s.spaces m)) := at_map hos
 have hgo : SGood (nth s.spaces m) := ⟨S.sok, S.ste⟩
 have ht60 := S.t60
 have w9 : IntKind.wrap .i64 (p.seg - 1) = (m : Int) := by rw [S.seg]; exact wrap_i64 (by have := S.hos; have := hz.p; omega) (by have := S.hos; have := hz.p; omega)
 have hS := pmoved_good (nth s.spaces m) (nth s.jobs j) hgo hg d b (by have := F.t60; omega) (by have := F.t60; omega)
 generalize setQ (nth s.spaces m) d (quadB (nth s.jobs j).bytes b) (nth (nth s.jobs j).tags b) = X at hS
 have hset2 : (s.spaces.map encStg).set m [.str X.bytes, .sl (X.tags.map encB)] = (s.spaces.set m X).map encStg := List.map_set.symm
 clear P
 obtain ⟨kind, job, src, dst, pointer, object, auth, data⟩ := o
 simp only at *
 subst k0 hjb hsr hdt
 refine good_run [] mixed Tryz.func37 rfl Tryz.ntmps37 (rs := [.cell 6 37, .tmp 7]) rfl (by decide +kernel) (by kernel_rfl) rfl ?_
 rw [startE_eq 241 _ _ _ rfl rfl]
 simp only [go_sem, seval]
 refine callD_of (h1) ?_
 simp only [go_sem, seval, Bool.not_true, w1]
 refine callD_of (hc) ?_
 simp only [go_sem, seval, w1]
 refine callD_of (h2) ?_
 simp only [go_sem, seval, Bool.not_true, w1]
 refine callD_of (hd) ?_
 simp only [go_sem, seval]
 refine callD_of (hf) ?_
 simp only [go_sem, seval]
 refine ⟨by decide +kernel, ?_⟩
 refine call_of (hr) ?_
 simp only [go_sem, seval]
 refine callM_of [] [45, 44] (hm) ⟨rfl, rfl, rfl, by simp, by simp, by simp, by simp, rfl, rfl, rfl, onodup_of (l := [5, 8]) rfl (by decide)⟩ ?_
 simp only [go_sem, seval]
 simp only [go_sem, seval, hjs, hjs2, hqj, Option.map_some, Int.toNat_natCast]
 refine callD_of (hU) ?_
 simp only [go_sem, seval, w9, hos, hos2, hqo, hjs, hjs2, hqj, Option.map_some, Int.toNat_natCast]
 refine ⟨by decide +kernel, ?_⟩
 refine callD_of (hS) ?_
 simp only [go_sem, seval, hos, hos2, hqo, hjs, hjs2, hqj, Option.map_some, Int.toNat_natCast, hset2]
 decide +kernel
set_option maxHeartbeats 16000000 in
theorem ps_ok7 {c : Case} (h : Right c) (s : St) (o : COp) (hd0 : o.data.size ≤ 1000000) (j : Nat) (F : Fm c s o j) (k0 : o.kind = 7) (a m b d : Nat) (p : Ptr) (P : Pt c s o j a p) (hn : p.kind = 1) (S : Spc c s p m) (hi : incB p.auth 32 = true) (hsr : o.src = (b : Int)) (hb59 : b ≤ 59) (hdt : o.dst = (d : Int)) (hd59 : d ≤ 59) : PS c s o (.agg (encSt ⟨s.jobs.set j (setQ (nth s.jobs j) d (quadB (nth s.spaces m).bytes b) (nth (nth s.spaces m).tags b)), s.spaces⟩)) 0 := by
 have hJ := h.J
 have hO := h.O
 have hk := F.kind
 have hjb := F.job
 have hj := F.hj
 have hjs := F.hjs
 have hz := F.sz
 have h1 := pin_good o.kind 0 8
 rw [show inB o.kind 0 8 = true by unfold inB; exact decide_eq_true hk] at h1
 have h2 := pin_good o.job 0 ((c.users.length : Int) - 1)
 rw [show inB o.job 0 ((c.users.length : Int) - 1) = true by unfold inB; exact decide_eq_true (by omega)] at h2
 have hc := condF 4
 have hd := condF 3
 have hf := first2_0 0
 have hr := range_good c (by omega) o hk hd0
 rw [F.bad, if_neg (by decide)] at hr
 have w1 : IntKind.wrap .i64 ((c.users.length : Int) - 1) = (c.users.length : Int) - 1 := wrap_i64 (by omega) (by omega)
 have hm := ownM s hz.j hz.p
 have hjs2 : (j : Int) < (s.jobs.length : Int) := by omega
 have hj2 : (j : Int) < (c.users.length : Int) := by omega
 have hqj : (List.map encStg s.jobs)[j]? = some (encStg (nth s.jobs j)) := at_map hjs
 have hg : SGood (nth s.jobs j) := ⟨F.sok, F.ste⟩
 have e1 : kdI o = 1 := by unfold kdI; rw [if_neg (by omega)]
 have e2 : needI o = 32 := by unfold needI; rw [if_neg (by omega), if_pos k0]
 have hU := used_end c (by omega) (nth s.jobs j) hg o ⟨by omega, hk.2⟩ a P.at_ P.a60 (by have := F.t60; have := P.a60; omega) P.tag p P.ptr (by rw [e1]; exact hn) (.inr S.sp) true (by rw [e2]; exact hi)
 rw [Bool.not_true, if_neg (by decide)] at hU
 have hpe := ptrE_ok.1 P.e
 have ha60 := P.a60
 have hat := P.at_
 rw [hjb] at h2
 have hos := S.hos
 have hos2 : (m : Int) < (s.spaces.length : Int) := by omega
 have hqo : (List.map encStg s.spaces)[m]? = some (encStg (nth s.spaces m)) := at_map hos
 have hgo : SGood (nth s.spaces m) := ⟨S.sok, S.ste⟩
 have ht60 := S.t60
 have w9 : IntKind.wrap .i64 (p.seg - 1) = (m : Int) := by rw [S.seg]; exact wrap_i64 (by have := S.hos; have := hz.p; omega) (by have := S.hos; have := hz.p; omega)
 have hS := pmoved_good (nth s.jobs j) (nth s.spaces m) hg hgo d b (by have := F.t60; omega) (by have := F.t60; omega)
 generalize setQ (nth s.jobs j) d (quadB (nth s.spaces m).bytes b) (nth (nth s.spaces m).tags b) = X at hS
 have hset2 : (s.jobs.map encStg).set j [.str X.bytes, .sl (X.tags.map encB)] = (s.jobs.set j X).map encStg := List.map_set.symm
 clear P
 obtain ⟨kind, job, src, dst, pointer, object, auth, data⟩ := o
 simp only at *
 subst k0 hjb hsr hdt
 refine good_run [] mixed Tryz.func37 rfl Tryz.ntmps37 (rs := [.cell 6 37, .tmp 7]) rfl (by decide +kernel) (by kernel_rfl) rfl ?_
 rw [startE_eq 241 _ _ _ rfl rfl]
 simp only [go_sem, seval]
 refine callD_of (h1) ?_
 simp only [go_sem, seval, Bool.not_true, w1]
 refine callD_of (hc) ?_
 simp only [go_sem, seval, w1]
 refine callD_of (h2) ?_
 simp only [go_sem, seval, Bool.not_true, w1]
 refine callD_of (hd) ?_
 simp only [go_sem, seval]
 refine callD_of (hf) ?_
 simp only [go_sem, seval]
 refine ⟨by decide +kernel, ?_⟩
 refine call_of (hr) ?_
 simp only [go_sem, seval]
 refine callM_of [] [45, 44] (hm) ⟨rfl, rfl, rfl, by simp, by simp, by simp, by simp, rfl, rfl, rfl, onodup_of (l := [5, 8]) rfl (by decide)⟩ ?_
 simp only [go_sem, seval]
 simp only [go_sem, seval, hjs, hjs2, hqj, Option.map_some, Int.toNat_natCast]
 refine callD_of (hU) ?_
 simp only [go_sem, seval, w9, hos, hos2, hqo, hjs, hjs2, hqj, Option.map_some, Int.toNat_natCast]
 refine ⟨by decide +kernel, ?_⟩
 refine callD_of (hS) ?_
 simp only [go_sem, seval, hos, hos2, hqo, hjs, hjs2, hqj, Option.map_some, Int.toNat_natCast, hset2]
 decide +kernel
set_option maxHeartbeats 16000000 in
theorem ps_ok8 {c : Case} (h : Right c) (s : St) (o : COp) (hd0 : o.data.size ≤ 1000000) (j : Nat) (F : Fm c s o j) (k0 : o.kind = 8) (a m d : Nat) (p : Ptr) (P : Pt c s o j a p) (hn : p.kind = 0) (S : Spc c s p m) (hdt : o.dst = (d : Int)) (hdz : d + o.data.size ≤ 960) : PS c s o (.agg (encSt ⟨s.jobs, s.spaces.set m (wrS (nth s.spaces m) d o.data)⟩)) 0 := by
 have hJ := h.J
 have hO := h.O
 have hk := F.kind
 have hjb := F.job
 have hj := F.hj
 have hjs := F.hjs
 have hz := F.sz
 have h1 := pin_good o.kind 0 8
 rw [show inB o.kind 0 8 = true by unfold inB; exact decide_eq_true hk] at h1
 have h2 := pin_good o.job 0 ((c.users.length : Int) - 1)
 rw [show inB o.job 0 ((c.users.length : Int) - 1) = true by unfold inB; exact decide_eq_true (by omega)] at h2
 have hc := condF 4
 have hd := condF 3
 have hf := first2_0 0
 have hr := range_good c (by omega) o hk hd0
 rw [F.bad, if_neg (by decide)] at hr
 have w1 : IntKind.wrap .i64 ((c.users.length : Int) - 1) = (c.users.length : Int) - 1 := wrap_i64 (by omega) (by omega)
 have hm := ownM s hz.j hz.p
 have hjs2 : (j : Int) < (s.jobs.length : Int) := by omega
 have hj2 : (j : Int) < (c.users.length : Int) := by omega
 have hqj : (List.map encStg s.jobs)[j]? = some (encStg (nth s.jobs j)) := at_map hjs
 have hg : SGood (nth s.jobs j) := ⟨F.sok, F.ste⟩
 have e1 : kdI o = 0 := by unfold kdI; rw [if_pos k0]
 have e2 : needI o = 0 := by unfold needI; rw [if_pos (.inl k0)]
 have hU := used_end c (by omega) (nth s.jobs j) hg o ⟨by omega, hk.2⟩ a P.at_ P.a60 (by have := F.t60; have := P.a60; omega) P.tag p P.ptr (by rw [e1]; exact hn) (.inr S.sp) true (by rw [e2]; exact incB_zero (ptrE_ok.1 P.e).2.2.2.1)
 rw [Bool.not_true, if_neg (by decide)] at hU
 have hpe := ptrE_ok.1 P.e
 have ha60 := P.a60
 have hat := P.at_
 rw [hjb] at h2
 have hos := S.hos
 have hos2 : (m : Int) < (s.spaces.length : Int) := by omega
 have hqo : (List.map encStg s.spaces)[m]? = some (encStg (nth s.spaces m)) := at_map hos
 have hgo : SGood (nth s.spaces m) := ⟨S.sok, S.ste⟩
 have ht60 := S.t60
 have w9 : IntKind.wrap .i64 (p.seg - 1) = (m : Int) := by rw [S.seg]; exact wrap_i64 (by have := S.hos; have := hz.p; omega) (by have := S.hos; have := hz.p; omega)
 have hS := WriteB_good (nth s.spaces m) hgo (by omega) d o.data (by have := S.sok.size; omega)
 clear P
 obtain ⟨kind, job, src, dst, pointer, object, auth, data⟩ := o
 simp only at *
 subst k0 hjb hdt
 generalize wrS (nth s.spaces m) d data = X at hS
 have hset2 : (s.spaces.map encStg).set m [.str X.bytes, .sl (X.tags.map encB)] = (s.spaces.set m X).map encStg := List.map_set.symm
 refine good_run [] mixed Tryz.func37 rfl Tryz.ntmps37 (rs := [.cell 6 37, .tmp 7]) rfl (by decide +kernel) (by kernel_rfl) rfl ?_
 rw [startE_eq 241 _ _ _ rfl rfl]
 simp only [go_sem, seval]
 refine callD_of (h1) ?_
 simp only [go_sem, seval, Bool.not_true, w1]
 refine callD_of (hc) ?_
 simp only [go_sem, seval, w1]
 refine callD_of (h2) ?_
 simp only [go_sem, seval, Bool.not_true, w1]
 refine callD_of (hd) ?_
 simp only [go_sem, seval]
 refine callD_of (hf) ?_
 simp only [go_sem, seval]
 refine ⟨by decide +kernel, ?_⟩
 refine call_of (hr) ?_
 simp only [go_sem, seval]
 refine callM_of [] [45, 44] (hm) ⟨rfl, rfl, rfl, by simp, by simp, by simp, by simp, rfl, rfl, rfl, onodup_of (l := [5, 8]) rfl (by decide)⟩ ?_
 simp only [go_sem, seval]
 simp only [go_sem, seval, hjs, hjs2, hqj, Option.map_some, Int.toNat_natCast]
 refine callD_of (hU) ?_
 simp only [go_sem, seval, w9, hos, hos2, hqo, hjs, hjs2, hqj, Option.map_some, Int.toNat_natCast]
 refine ⟨by decide +kernel, ?_⟩
 refine callD_of (hS) ?_
 simp only [go_sem, seval, hos, hos2, hqo, hjs, hjs2, hqj, Option.map_some, Int.toNat_natCast, hset2]
 decide +kernel
theorem pstep_good {c : Case} (h : Right c) {s : St} (hv : StV (cc c) s) (o : COp) (hd0 : o.data.size ≤ 1000000) : PS c s o (stR (stepS (cc c) s o)) (stepS (cc c) s o).2 := by
 have hJ := h.J
 have hO := h.O
 refine step_all h hv (A := fun r e => PS c s o r e) ?_
 exact {
  kind := fun a => ps_kind c s o a (by omega)
  job := fun a b => ps_job c s o a b (by omega)
  bad := fun a b d => ps_bad c s o a b (by omega) (by omega) hd0 d
  no0 := fun j k d F k0 a b e f g => ps_no0 h s o hd0 j F k0 k d a b e f g
  ok0 := fun j k d F k0 a b e f g i => ps_ok0 h s o hd0 j F k0 k d a b e f g i
  ok1 := fun j d F k0 a b => ps_ok1 h s o hd0 j F k0 d a b
  ok2 := fun j a d F k0 x y z w => ps_ok2 h s o hd0 j F k0 a d x y z w
  ok3 := fun j a d F k0 x y z w => ps_ok3 h s o hd0 j F k0 a d x y z w
  tag := fun j a F k4 x y z => ps_tag h s o hd0 j F k4 a x y z
  pkind := fun j a p F k4 P hn => ps_pkind h s o hd0 j F k4 a p P hn
  space := fun j a p F k5 P hn _ hsp => ps_space h s o hd0 j F (by omega) a p P k5 hn hsp
  auth := fun j a m p F k5 k7 P hn S hi => ps_auth h s o hd0 j F (by omega) a p P (by unfold kdI; rw [if_neg (by omega)]; exact hn) (.inr S.sp) hi
  ok4 := fun j a p F k0 P hn hau => ps_ok4 h s o hd0 j F k0 a p P hn hau
  ok5 := fun j a m d p F k0 P hn S hi x y => ps_ok5 h s o hd0 j F k0 a m d p P hn S hi x y
  ok6 := fun j a m b d p F k0 P hn S hi x y z w => ps_ok6 h s o hd0 j F k0 a m b d p P hn S hi x y z w
  ok7 := fun j a m b d p F k0 P hn S hi x y z w => ps_ok7 h s o hd0 j F k0 a m b d p P hn S hi x y z w
  ok8 := fun j a m d p F k0 P hn S x y => ps_ok8 h s o hd0 j F k0 a m d p P hn S x y }
set_option maxRecDepth 100000
theorem firstE2 (a b : Int) : firstE [a, b] = if a = 0 then b else a := by
 unfold firstE
 by_cases h : a = 0
 · subst h; simp [firstE]; intro hb; exact hb.symm
 · simp [firstE, h]
theorem Run_no {c : Case} (l : List COp) (hs : Fit c.sec) (hu : c.users.length ≤ 1000) (hl : l.length ≤ 1000000) (e : Int) (he : ¬ e = 0) (hee : e = if ¬ (caseE c).2 = 0 then (caseE c).2 else if 140 < l.length then 2 else 0) :
 Ans Tryz.prog 12 [.agg (encCase c), .sl (l.map encCOp)] (.tup [.agg [.nils, .nils], .nils, .int .i64 e]) := by
 have hc := caseErr_good c hs hu
 have hd := pcond_good (decide ((l.length : Int) > 140)) 2
 have hf := pfirst2_good (caseE c).2 (if decide ((l.length : Int) > 140) = true then 2 else 0)
 have hv : firstE [(caseE c).2, if decide ((l.length : Int) > 140) = true then 2 else 0] = e := by
  rw [firstE2, hee]
  by_cases q : (caseE c).2 = 0
  · rw [if_pos q, if_neg (not_not_intro q)]
    by_cases r : 140 < l.length
    · rw [if_pos r, if_pos (decide_eq_true (by omega))]
    · rw [if_neg r, if_neg (by rw [decide_eq_false (by omega)]; decide)]
  · rw [if_neg q, if_pos q]
 rw [hv] at hf
 generalize (if decide ((l.length : Int) > 140) = true then (2 : Int) else 0) = y at hd hf
 generalize (caseE c).2 = x at hc hf
 clear hv hee
 have het := eq_false he
 generalize hb : decide ((l.length : Int) > 140) = b at hd
 refine good_run [(7, [11, 12, 13, 31, 32, 33, 34, 35, 36, 37, 38, 39, 40, 41, 42, 43, 44, 45, 46, 47, 48], [11, 12, 46, 1901039047])] mixed Tryz.func12 rfl Tryz.ntmps12 (rs := [.cell 4 37, .tmp 5, .tmp 6]) rfl (by decide +kernel) (by kernel_rfl) rfl ?_
 rw [startE_eq 51 _ _ _ rfl rfl]
 simp only [go_sem, seval]
 refine call_of (hc) ?_
 simp only [go_sem, seval, hb]
 refine call_of (hd) ?_
 simp only [go_sem, seval]
 refine call_of (hf) ?_
 simp only [go_sem, seval, het, not_false_eq_true, decide_true]
theorem take_snoc {α : Type} [Inhabited α] {l : List α} {i : Nat} (h : i < l.length) : l.take (i + 1) = l.take i ++ [nth l i] := by
 rw [List.take_add_one, List.getElem?_eq_getElem h, nth_eq h]; rfl
set_option maxHeartbeats 8000000 in
theorem Run_good {c : Case} (h : Right c) (he : (caseE c).2 = 0) (hs : Fit c.sec) (l : List COp) (hl : l.length ≤ 140) (hd : ∀ o ∈ l, o.data.size ≤ 1000000) :
 Ans Tryz.prog 12 [.agg (encCase c), .sl (l.map encCOp)] (.tup [.agg (encSt (runGo (cc c) (startS (cc c)) l)), .sl ((errsGo (cc c) (startS (cc c)) l).map encInt), .int .i64 0]) := by
 have hJ := h.J
 have hc := caseErr_good c hs (by omega)
 rw [he] at hc
 have hcd := condF 2
 have hf := first2_0 0
 have hst := start_good c h
 have h140 : ((l.length : Int) > 140) = False := eq_false (by omega)
 have hS0 : runGo (cc c) (startS (cc c)) (l.take 0) = startS (cc c) := rfl
 have hE0 : errsGo (cc c) (startS (cc c)) (l.take 0) = [] := rfl
 have hSl : runGo (cc c) (startS (cc c)) (l.take l.length) = runGo (cc c) (startS (cc c)) l := by rw [List.take_length]
 have hEl : errsGo (cc c) (startS (cc c)) (l.take l.length) = errsGo (cc c) (startS (cc c)) l := by rw [List.take_length]
 rw [← hSl, ← hEl]
 rw [← hS0] at hst
 have hok : ∀ i, StV (cc c) (runGo (cc c) (startS (cc c)) (l.take i)) := fun i => runGo_ok h.aut (start_ok _)
 have hnext : ∀ i, i < l.length → runGo (cc c) (startS (cc c)) (l.take (i + 1)) = nextS (cc c) (runGo (cc c) (startS (cc c)) (l.take i)) (nth l i) := fun i hi => by rw [take_snoc hi, runGo_snoc]
 have herr : ∀ i, i < l.length → errsGo (cc c) (startS (cc c)) (l.take (i + 1)) = errsGo (cc c) (startS (cc c)) (l.take i) ++ [(stepS (cc c) (runGo (cc c) (startS (cc c)) (l.take i)) (nth l i)).2] := fun i hi => by rw [take_snoc hi, errsGo_snoc]
 have hlen : ∀ i, i ≤ l.length → (errsGo (cc c) (startS (cc c)) (l.take i)).length = i := fun i hi => by rw [errsGo_len, List.length_take]; omega
 generalize hSd : (fun i => runGo (cc c) (startS (cc c)) (l.take i)) = S at *
 generalize hEd : (fun i => errsGo (cc c) (startS (cc c)) (l.take i)) = E at *
 have S_ : ∀ i, runGo (cc c) (startS (cc c)) (l.take i) = S i := fun i => by rw [← hSd]
 have E_ : ∀ i, errsGo (cc c) (startS (cc c)) (l.take i) = E i := fun i => by rw [← hEd]
 simp only [S_, E_] at *
 clear S_ E_ hSd hEd hSl hEl hS0
 refine good_run [(7, [11, 12, 13, 31, 32, 33, 34, 35, 36, 37, 38, 39, 40, 41, 42, 43, 44, 45, 46, 47, 48], [11, 12, 46, 1901039047])] mixed Tryz.func12 rfl Tryz.ntmps12 (rs := [.cell 4 37, .tmp 5, .tmp 6]) rfl (by decide +kernel) (by kernel_rfl) rfl ?_
 rw [startE_eq 51 _ _ _ rfl rfl]
 simp only [go_sem, seval]
 refine call_of (hc) ?_
 simp only [go_sem, seval, h140, decide_false]
 refine call_of (hcd) ?_
 simp only [go_sem, seval]
 refine call_of (hf) ?_
 simp only [go_sem, seval]
 refine call_of (hst) ?_
 simp only [go_sem, seval]
 refine loop_by ([11, 12, 13, 31, 32, 33, 34, 35, 36, 37, 38, 39, 40, 41, 42, 43, 44, 45, 46, 47, 48], [11, 12, 46, 1901039047]) (fun i : Nat => [(.s 30, .int .i64 (i : Int)), (.o 8, .obj 1 37 2 false false [[.sl ((S i).jobs.map encStg), .sl ((S i).spaces.map encStg)]]), (.o 11, deadV i), (.o 12, deadV i), (.o 46, deadV i), (.o 47, .obj (i + 1) 39 1 false true ((E i).map encInt)), (.s 9, .ref 47 (i + 1))]) (fun i => l.length - i) (fun i => i ≤ l.length) 0 rfl (Nat.zero_le _) ?_ ?_
 · simp only [go_sem, seval, hE0]
 rintro c' st' hst2 i hi ih
 simp only [go_sem, seval]
 refine ifI (fun hlt => ?_) fun hlt => ?_
 · have hlt' : i < l.length := by omega
   have hps := pstep_good h (hok i) (nth l i) (hd _ (nth_mem hlt'))
   have hn := hnext i hlt'
   have hr := herr i hlt'
   have hle := hlen i (by omega)
   unfold nextS at hn
   generalize stepS (cc c) (S i) (nth l i) = R at hps hn hr
   have hr2 : List.map encInt (E (i + 1)) = List.map encInt (E i) ++ [[.int .i64 R.2]] := by rw [hr, List.map_append]; rfl
   refine Classical.byCases (fun hz : R.2 = 0 => ?_) fun hz => ?_
   · rw [if_pos hz] at hn
     rw [hz] at hr2
     have hps2 : PS c (S i) (nth l i) (.agg (encSt R.1)) 0 := by
      have : stR R = .agg (encSt R.1) := by unfold stR; rw [if_pos hz]
      rw [this, hz] at hps; exact hps
     rw [← hn] at hps2
     simp only [go_sem, seval, hlt, hlt']
     refine call_of (hps2) ?_
     simp only [go_sem, seval, hle, show (i + 1) * 8 ≤ 140737488355328 by omega, show i + 1 ≤ maxLen by unfold maxLen; omega]
     refine ih (i + 1) _ (by omega) (by omega) ?_
     simp only [go_sem, seval, wrap_succ (show i < 9223372036854775807 by omega), hr2]
   · rw [if_neg hz] at hn
     have hps2 : PS c (S i) (nth l i) (.agg [.nils, .nils]) R.2 := by
      have : stR R = .agg [.nils, .nils] := by unfold stR; rw [if_neg hz]
      rw [this] at hps; exact hps
     generalize R.2 = e at hps2 hr2 hz
     have het := eq_false hz
     simp only [go_sem, seval, hlt, hlt']
     refine call_of (hps2) ?_
     simp only [go_sem, seval, het, decide_false, hle, show (i + 1) * 8 ≤ 140737488355328 by omega, show i + 1 ≤ maxLen by unfold maxLen; omega]
     refine ih (i + 1) _ (by omega) (by omega) ?_
     simp only [go_sem, seval, wrap_succ (show i < 9223372036854775807 by omega), hr2, hn]
 · have hin : i = l.length := by omega
   subst hst2
   simp only [go_sem, seval, hlt]
   rw [hin]
   try exact ⟨⟨rfl, rfl⟩, rfl⟩
end Go.Proofs.YtbhgehhmjpipiaaGreatDoor.C12
