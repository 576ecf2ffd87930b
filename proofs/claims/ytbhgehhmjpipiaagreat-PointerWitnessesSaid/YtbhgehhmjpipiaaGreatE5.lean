/- Chapter 12: derivations added, gates. -/
import Derived.Test.YtbhgehhmjpipiaaGreatE3
import Derived.Test.YtbhgehhmjpipiaaGreatN0
namespace Go.Proofs.YtbhgehhmjpipiaaGreat.C12
open Go Go.Proofs Go.Proofs.YtbhgehhmjpipiaaGreat.Ab Go.Proofs.YtbhgehhmjpipiaaGreat.C10
set_option maxRecDepth 100000
set_option linter.unusedSimpArgs false
set_option linter.unusedVariables false
attribute [local congr] ite_ctx
/-- A case, as the derivations look at it. -/
def cc (c : Case) : CC := ⟨c.users.length, c.sec.objects.length, auI c, spB c, incB⟩
/-- The deriver: the case, and the own list. -/
def dObj (c : Case) (t v : Nat) : AV := .obj 1 143 5 false false [[.sl (c.sec.profiles.map encProf), .sl (c.sec.lists.map encAList), .sl (c.sec.objects.map encSecured), .sl (c.users.map encStr), .ref t v]]
attribute [go_sem] dObj
theorem encDer_eq (x : Der) : encDer x = [.int .i64 x.cap.job, .int .i64 x.cap.object, .int .i64 x.cap.kind, .int .i64 x.cap.auth, .int .i64 x.kind, .int .i64 x.source, .int .i64 x.writer, .int .i64 x.reader] := rfl
theorem isNew_good (x y : Der) : Ans Tryz.prog 117 [.agg (encDer y), .ptr (encDer x)] (.bool (decide (y.cap = x.cap))) := by
  have e : decide (y.cap = x.cap) = (decide (y.cap.job = x.cap.job) && (decide (y.cap.object = x.cap.object) && (decide (y.cap.kind = x.cap.kind) && decide (y.cap.auth = x.cap.auth)))) := by
    rw [Bool.eq_iff_iff]; simp [Cap.ext_iff']
  rw [e]
  refine good_run [] mixed Tryz.func117 rfl Tryz.ntmps117 (rs := [.tmp 3]) rfl (by decide +kernel) (by kernel_rfl) rfl ?_
  rw [startE_eq 9 _ _ _ rfl rfl]
  simp only [go_sem, seval]
theorem isGate_good (j s n : Int) (y : Der) : Ans Tryz.prog 180 [.agg (encDer y), .ptr [.int .i64 j], .ptr [.int .i64 s], .ptr [.int .i64 n]] (.bool (decide (y.cap.job = j ∧ y.cap.object = s ∧ y.cap.kind = 1 ∧ incB y.cap.auth n = true))) := by
  have hg := pinc_good y.cap.auth n
  refine Classical.byCases (fun h1 : y.cap.job = j => ?_) fun h1 => ?_
  case refine_2 =>
    have e : decide (y.cap.job = j ∧ y.cap.object = s ∧ y.cap.kind = 1 ∧ incB y.cap.auth n = true) = false := decide_eq_false fun q => h1 q.1
    rw [e]
    refine good_run [] mixed Tryz.func180 rfl Tryz.ntmps180 (rs := [.tmp 5]) rfl (by decide +kernel) (by kernel_rfl) rfl ?_
    rw [startE_eq 30 _ _ _ rfl rfl]
    simp only [go_sem, seval, h1, decide_false]
  refine Classical.byCases (fun h2 : y.cap.object = s => ?_) fun h2 => ?_
  case refine_2 =>
    have e : decide (y.cap.job = j ∧ y.cap.object = s ∧ y.cap.kind = 1 ∧ incB y.cap.auth n = true) = false := decide_eq_false fun q => h2 q.2.1
    rw [e]
    refine good_run [] mixed Tryz.func180 rfl Tryz.ntmps180 (rs := [.tmp 5]) rfl (by decide +kernel) (by kernel_rfl) rfl ?_
    rw [startE_eq 30 _ _ _ rfl rfl]
    simp only [go_sem, seval, h1, h2, decide_true, decide_false]
  refine Classical.byCases (fun h3 : y.cap.kind = 1 => ?_) fun h3 => ?_
  case refine_2 =>
    have e : decide (y.cap.job = j ∧ y.cap.object = s ∧ y.cap.kind = 1 ∧ incB y.cap.auth n = true) = false := decide_eq_false fun q => h3 q.2.2.1
    rw [e]
    refine good_run [] mixed Tryz.func180 rfl Tryz.ntmps180 (rs := [.tmp 5]) rfl (by decide +kernel) (by kernel_rfl) rfl ?_
    rw [startE_eq 30 _ _ _ rfl rfl]
    simp only [go_sem, seval, h1, h2, h3, decide_true, decide_false]
  have e : decide (y.cap.job = j ∧ y.cap.object = s ∧ y.cap.kind = 1 ∧ incB y.cap.auth n = true) = incB y.cap.auth n := by
    cases hi : incB y.cap.auth n <;> simp [h1, h2, h3]
  rw [e]
  refine good_run [] mixed Tryz.func180 rfl Tryz.ntmps180 (rs := [.tmp 5]) rfl (by decide +kernel) (by kernel_rfl) rfl ?_
  rw [startE_eq 30 _ _ _ rfl rfl]
  simp only [go_sem, seval, h1, h2, h3, decide_true]
  refine call_of (hg) ?_
  simp only [go_sem, seval]
theorem at_map {α : Type} [Inhabited α] {f : α → List AV} {l : List α} {i : Nat} (h : i < l.length) : (l.map f)[i]? = some (f (nth l i)) := by
  rw [List.getElem?_map, List.getElem?_eq_getElem h, nth_eq h]; rfl
theorem IndexDM {f : Nat} {caps : List AV} {p : Der → Bool} (hcap : caps.all AV.cellP = true) (hp : ∀ o, Ans Tryz.prog f (.agg (encDer o) :: caps) (.bool (p o))) (l : List Der) (h : l.length ≤ 1000000) :
    AnsM Tryz.prog 130 19 [.obj 1 59 8 false true (l.map encDer)] [.ref 19 1, .fn f caps] (.int .i64 (findIx p l 0)) [(19, .obj 1 59 8 false true (l.map encDer))] := by
  refine goodM_run [(2, [4, 5, 9, 10, 11, 12, 13, 14, 15, 16, 17, 18], [])] mixed Tryz.func130 rfl Tryz.ntmps130 (rs := [.tmp 4]) rfl (show wfCode 20 _ = true by decide +kernel) (by kernel_rfl) ?_
  rw [startM_eq 19 _ _ _ _ rfl rfl]
  simp only [go_sem, seval]
  refine loop_by ([4, 5, 9, 10, 11, 12, 13, 14, 15, 16, 17, 18], []) (fun i : Nat => [(.s 8, .int .i64 (i : Int))]) (fun i => l.length - i) (fun i => i ≤ l.length ∧ findIx p l 0 = findIx p (l.drop i) i) 0 rfl ⟨Nat.zero_le _, rfl⟩ rfl ?_
  rintro c' st' hst i ⟨hi, hf⟩ ih
  simp only [go_sem, seval]
  refine ifI (fun hlt => ?_) fun hlt => ?_
  · have hlt' : i < l.length := by omega
    have hq : (List.map encDer l)[i]? = some (encDer (nth l i)) := at_map hlt'
    simp only [go_sem, seval, hlt, hq, Option.map_some]
    refine call_of (hp (nth l i)) ?_
    simp only [go_sem, seval]
    refine ifI (fun hn => ?_) fun hn => ?_
    · simp only [go_sem, seval]
      rw [hf, drop_nth hlt, findIx, if_pos hn]
      simp
    · simp only [go_sem, seval]
      refine ih (i + 1) _ ⟨by omega, ?_⟩ (by omega) ?_
      · rw [hf, drop_nth hlt, findIx, if_neg hn]
      simp only [go_sem, seval, wrap_succ (show i < 9223372036854775807 by omega)]
  · subst hst
    simp only [go_sem, seval]
    rw [hf, List.drop_eq_nil_of_le (by omega)]
    simp [findIx]
theorem has_ix (l : List Der) (x : Cap) : decide (0 ≤ findIx (fun y : Der => decide (y.cap = x)) l 0) = has l x := findIx_any ..
theorem ContainsDM (l : List Der) (x : Der) (h : l.length ≤ 1000000) :
    AnsM Tryz.prog 96 9 [.obj 1 59 8 false true (l.map encDer)] [.ref 9 1, .fn 117 [.ptr (encDer x)]] (.bool (has l x.cap)) [(9, .obj 1 59 8 false true (l.map encDer))] := by
  rw [← has_ix, encDer_eq]
  refine goodM_run [] mixed Tryz.func96 rfl Tryz.ntmps96 (rs := [.tmp 4]) rfl (show wfCode 10 _ = true by decide +kernel) (by kernel_rfl) ?_
  rw [startM_eq 9 _ _ _ _ rfl rfl]
  simp only [go_sem, seval]
  refine callM_of [9] [9] (IndexDM (caps := [.ptr [.int .i64 x.cap.job, .int .i64 x.cap.object, .int .i64 x.cap.kind, .int .i64 x.cap.auth, .int .i64 x.kind, .int .i64 x.source, .int .i64 x.writer, .int .i64 x.reader]]) rfl (fun y => isNew_good x y) l h) ⟨by simp [renA, ren1, invM, posOf, verOf, AV.cellP, Env.go], rfl, rfl, by simp, by simp, by simp, by simp, rfl, rfl, rfl, onodup_of (l := [19]) rfl (by decide)⟩ ?_
  simp only [go_sem, seval]
  simp
set_option maxHeartbeats 4000000 in
theorem add_old (c : Case) (l : List Der) (x : Der) (hl : l.length ≤ 1000) (h : has l x.cap = true) :
    AnsM Tryz.prog 77 21 [dObj c 22 1, .obj 1 59 8 false true (l.map encDer)] [.loc 21 1 0 0, .agg (encDer x)] (.bool false) [(21, dObj c 22 1), (22, .obj 1 59 8 false true (l.map encDer))] := by
  have hc := ContainsDM l x (by omega)
  rw [h, encDer_eq] at hc
  refine goodM_run [] mixed Tryz.func77 rfl Tryz.ntmps77 (rs := [.tmp 4]) rfl (show wfCode 23 _ = true by decide +kernel) (by kernel_rfl) ?_
  rw [startM_eq 21 _ _ _ _ rfl rfl]
  simp only [go_sem, seval]
  refine callM_of [22] [22] (hc) ⟨by simp [renA, ren1, invM, posOf, verOf, AV.cellP, Env.go], rfl, rfl, by simp, by simp, by simp, by simp, rfl, rfl, rfl, onodup_of (l := [9]) rfl (by decide)⟩ ?_
  simp only [go_sem, seval]
  simp
set_option maxHeartbeats 4000000 in
theorem add_new (c : Case) (l : List Der) (x : Der) (hl : l.length ≤ 1000) (h : has l x.cap = false) :
    AnsM Tryz.prog 77 21 [dObj c 22 1, .obj 1 59 8 false true (l.map encDer)] [.loc 21 1 0 0, .agg (encDer x)] (.bool true) [(21, dObj c 18 1), (18, .obj 1 59 8 false true ((l ++ [x]).map encDer))] := by
  have hc := ContainsDM l x (by omega)
  rw [h, encDer_eq] at hc
  have hr : List.map encDer (l ++ [x]) = List.map encDer l ++ [encDer x] := by simp
  have f1 : (l.length + 1) * 64 ≤ 140737488355328 := by omega
  have f2 : l.length + 1 ≤ maxLen := by unfold maxLen; omega
  rw [hr, encDer_eq]
  refine goodM_run [] mixed Tryz.func77 rfl Tryz.ntmps77 (rs := [.tmp 4]) rfl (show wfCode 23 _ = true by decide +kernel) (by kernel_rfl) ?_
  rw [startM_eq 21 _ _ _ _ rfl rfl]
  simp only [go_sem, seval]
  refine callM_of [22] [22] (hc) ⟨by simp [renA, ren1, invM, posOf, verOf, AV.cellP, Env.go], rfl, rfl, by simp, by simp, by simp, by simp, rfl, rfl, rfl, onodup_of (l := [9]) rfl (by decide)⟩ ?_
  simp only [go_sem, seval]
  simp only [go_sem, seval, f1, f2]
  refine ⟨by decide +kernel, ?_⟩
  simp
end Go.Proofs.YtbhgehhmjpipiaaGreat.C12
/- Chapter 12: what a job receives. -/
namespace Go.Proofs.YtbhgehhmjpipiaaGreat.C12
open Go Go.Proofs Go.Proofs.YtbhgehhmjpipiaaGreat.Ab Go.Proofs.YtbhgehhmjpipiaaGreat.C10
set_option maxRecDepth 100000
set_option linter.unusedSimpArgs false
set_option linter.unusedVariables false
attribute [local congr] ite_ctx
theorem gate_ix (c : Case) (l : List Der) (j s n : Int) : gate (cc c) l j s n = findIx (fun y : Der => decide (y.cap.job = j ∧ y.cap.object = s ∧ y.cap.kind = 1 ∧ incB y.cap.auth n = true)) l 0 := by
  have : ∀ (l : List Der) (i : Nat), gateGo (cc c) j s n l i = findIx (fun y : Der => decide (y.cap.job = j ∧ y.cap.object = s ∧ y.cap.kind = 1 ∧ incB y.cap.auth n = true)) l i := by
    intro l
    induction l with
    | nil => intro i; rfl
    | cons y l ih =>
      intro i
      unfold gateGo findIx
      rw [ih (i + 1)]
      have e : (cc c).inc = incB := rfl
      rw [e]
      by_cases q : y.cap.job = j ∧ y.cap.object = s ∧ y.cap.kind = 1 ∧ incB y.cap.auth n = true
      · rw [if_pos q, if_pos (decide_eq_true q)]
      · rw [if_neg q, if_neg (by rw [decide_eq_false q]; decide)]
  exact this l 0
theorem gate_good (c : Case) (l : List Der) (hl : l.length ≤ 1000) (j s n : Int) :
    AnsM Tryz.prog 156 15 [dObj c 16 1, .obj 1 59 8 false true (l.map encDer)] [.loc 15 1 0 0, .int .i64 j, .int .i64 s, .int .i64 n] (.int .i64 (gate (cc c) l j s n)) [(15, dObj c 16 1), (16, .obj 1 59 8 false true (l.map encDer))] := by
  rw [gate_ix]
  refine goodM_run [] mixed Tryz.func156 rfl Tryz.ntmps156 (rs := [.tmp 8]) rfl (show wfCode 17 _ = true by decide +kernel) (by kernel_rfl) ?_
  rw [startM_eq 15 _ _ _ _ rfl rfl]
  simp only [go_sem, seval]
  refine callM_of [16] [16] (IndexDM (caps := [.ptr [.int .i64 j], .ptr [.int .i64 s], .ptr [.int .i64 n]]) rfl (fun y => isGate_good j s n y) l (by omega)) ⟨by simp [renA, ren1, invM, posOf, verOf, AV.cellP, Env.go], rfl, rfl, by simp, by simp, by simp, by simp, rfl, rfl, rfl, onodup_of (l := [19]) rfl (by decide)⟩ ?_
  simp only [go_sem, seval]
  simp
/-- Whether a list has grown, and the number of the own row behind that. -/
def grew (l m : List Der) : Bool := decide (l.length < m.length)
def verP (l m : List Der) : Nat := if l.length < m.length then 2 else 1
theorem grew_same (l : List Der) : grew l l = false := by simp [grew]
theorem verP_same (l : List Der) : verP l l = 1 := by simp [verP]
theorem grew_snoc (l : List Der) (x : Der) : grew l (l ++ [x]) = true := by simp [grew]
theorem verP_snoc (l : List Der) (x : Der) : verP l (l ++ [x]) = 2 := by simp [verP]
theorem pass_skip {C : CC} {l : List Der} {x : Cap} {i j s : Nat} {R : List Der} (hs : s < C.O) (h : R = passGo C l x i j ((List.range C.O).drop s)) (hn : ¬ (C.sp (s : Int) = true ∧ 0 ≤ gate C l x.job (s : Int) 128 ∧ 0 ≤ gate C l (j : Int) (s : Int) 32)) : R = passGo C l x i j ((List.range C.O).drop (s + 1)) := by
  rw [h, List.drop_eq_getElem_cons (by simpa using hs), List.getElem_range, passGo, if_neg hn]
theorem pass_hit {C : CC} {l : List Der} {x : Cap} {i j s : Nat} {R : List Der} (hs : s < C.O) (h : R = passGo C l x i j ((List.range C.O).drop s)) (hn : C.sp (s : Int) = true ∧ 0 ≤ gate C l x.job (s : Int) 128 ∧ 0 ≤ gate C l (j : Int) (s : Int) 32) :
    R = addD l ⟨⟨(j : Int), x.object, x.kind, x.auth⟩, 2, (i : Int), gate C l x.job (s : Int) 128, gate C l (j : Int) (s : Int) 32⟩ := by
  rw [h, List.drop_eq_getElem_cons (by simpa using hs), List.getElem_range, passGo, if_pos hn]
set_option maxHeartbeats 8000000 in
theorem pass_good (c : Case) (hO : c.sec.objects.length ≤ 1000) (l : List Der) (hl : l.length ≤ 999) (i j : Nat) (hi : i < l.length) :
    AnsM Tryz.prog 118 63 [dObj c 64 1, .obj 1 59 8 false true (l.map encDer)] [.loc 63 1 0 0, .int .i64 (i : Int), .int .i64 (j : Int)] (.bool (grew l (pass (cc c) l i j)))
      [(63, dObj c 64 (verP l (pass (cc c) l i j))), (64, .obj (verP l (pass (cc c) l i j)) 59 8 false true ((pass (cc c) l i j).map encDer))] := by
  have hR : pass (cc c) l i j = passGo (cc c) l (nth l i).cap i j ((List.range (cc c).O).drop 0) := rfl
  have hOO : (cc c).O = c.sec.objects.length := rfl
  generalize pass (cc c) l i j = R at hR
  generalize hx : nth l i = x at hR
  have hq : (List.map encDer l)[i]? = some (encDer x) := by rw [at_map hi, hx]
  have hi2 : (i : Int) < (l.length : Int) := by omega
  refine goodM_run [(3, [6, 8, 9, 10, 11, 28, 29, 30, 31, 32, 33, 34, 35, 36, 37, 38, 39, 40, 41, 42, 43, 44, 45, 46, 47, 48, 49, 50, 51, 52, 53, 54, 55, 56, 57, 58, 59, 60, 61, 62], [11])] mixed Tryz.func118 rfl Tryz.ntmps118 (rs := [.tmp 6]) rfl (show wfCode 65 _ = true by decide +kernel) (by kernel_rfl) ?_
  rw [startM_eq 63 _ _ _ _ rfl rfl]
  simp only [go_sem, seval, hi, hi2, hq, Option.map_some]
  refine loop_by ([6, 8, 9, 10, 11, 28, 29, 30, 31, 32, 33, 34, 35, 36, 37, 38, 39, 40, 41, 42, 43, 44, 45, 46, 47, 48, 49, 50, 51, 52, 53, 54, 55, 56, 57, 58, 59, 60, 61, 62], [11]) (fun s : Nat => [(.s 27, .int .i64 (s : Int))]) (fun s => c.sec.objects.length - s) (fun s => s ≤ c.sec.objects.length ∧ R = passGo (cc c) l x.cap i j ((List.range (cc c).O).drop s)) 0 rfl ⟨Nat.zero_le _, hR⟩ rfl ?_
  rintro c' st' hst s ⟨hs, hf⟩ ih
  simp only [go_sem, seval]
  refine ifI (fun hlt => ?_) fun hlt => ?_
  case refine_2 =>
    subst hst
    have hRl : R = l := by rw [hf, List.drop_eq_nil_of_le (by simp; omega)]; rfl
    subst hRl
    rw [grew_same, verP_same]
    simp only [go_sem, seval, hlt]
    simp
  have hs' : s < (cc c).O := by omega
  simp only [go_sem, seval, hlt]
  refine call_of (isSpace_good c (s : Int) (by omega)) ?_
  simp only [go_sem, seval]
  refine Classical.byCases (fun hsp : spB c (s : Int) = true => ?_) fun hsp => ?_
  case refine_2 =>
    have hsp' : spB c (s : Int) = false := by simpa using hsp
    simp only [go_sem, seval, hsp', Bool.not_false]
    refine ih (s + 1) _ ⟨by omega, pass_skip hs' hf fun q => hsp q.1⟩ (by omega) ?_
    simp only [go_sem, seval, wrap_succ (show s < 9223372036854775807 by omega)]
  simp only [go_sem, seval, hsp, Bool.not_true]
  refine callM_of [63, 64] [63, 64] (gate_good c l (by omega) x.cap.job (s : Int) 128) ⟨by simp [renA, ren1, invM, posOf, verOf, AV.cellP, Env.go], rfl, rfl, by simp, by simp, by simp, by simp, rfl, rfl, rfl, onodup_of (l := [15, 16]) rfl (by decide)⟩ ?_
  simp only [go_sem, seval]
  refine callM_of [63, 64] [63, 64] (gate_good c l (by omega) (j : Int) (s : Int) 32) ⟨by simp [renA, ren1, invM, posOf, verOf, AV.cellP, Env.go], rfl, rfl, by simp, by simp, by simp, by simp, rfl, rfl, rfl, onodup_of (l := [15, 16]) rfl (by decide)⟩ ?_
  simp only [go_sem, seval]
  refine Classical.byCases (fun hw : gate (cc c) l x.cap.job (s : Int) 128 ≥ 0 => ?_) fun hw => ?_
  case refine_2 =>
    simp only [go_sem, seval, hw, decide_false]
    refine ih (s + 1) _ ⟨by omega, pass_skip hs' hf fun q => hw q.2.1⟩ (by omega) ?_
    simp only [go_sem, seval, wrap_succ (show s < 9223372036854775807 by omega)]
  refine Classical.byCases (fun hr : gate (cc c) l (j : Int) (s : Int) 32 ≥ 0 => ?_) fun hr => ?_
  case refine_2 =>
    simp only [go_sem, seval, hw, hr, decide_false, decide_true]
    refine ih (s + 1) _ ⟨by omega, pass_skip hs' hf fun q => hr q.2.2⟩ (by omega) ?_
    simp only [go_sem, seval, wrap_succ (show s < 9223372036854775807 by omega)]
  simp only [go_sem, seval, hw, hr, decide_true]
  have hhit := pass_hit hs' hf ⟨hsp, hw, hr⟩
  clear ih
  generalize hy : (⟨⟨(j : Int), x.cap.object, x.cap.kind, x.cap.auth⟩, 2, (i : Int), gate (cc c) l x.cap.job (s : Int) 128, gate (cc c) l (j : Int) (s : Int) 32⟩ : Der) = y at hhit
  have hye : encDer y = [.int .i64 (j : Int), .int .i64 x.cap.object, .int .i64 x.cap.kind, .int .i64 x.cap.auth, .int .i64 2, .int .i64 (i : Int), .int .i64 (gate (cc c) l x.cap.job (s : Int) 128), .int .i64 (gate (cc c) l (j : Int) (s : Int) 32)] := by rw [← hy]; rfl
  cases hh : has l y.cap with
  | true =>
    have hRl : R = l := by rw [hhit, addD, if_pos hh]
    subst hRl
    have ha := add_old c R y (by omega) hh
    rw [hye] at ha
    rw [grew_same, verP_same]
    refine callM_of [63, 64] [63, 64] (ha) ⟨by simp [renA, ren1, invM, posOf, verOf, AV.cellP, Env.go], rfl, rfl, by simp, by simp, by simp, by simp, rfl, rfl, rfl, onodup_of (l := [21, 22]) rfl (by decide)⟩ ?_
    simp only [go_sem, seval]
    simp
  | false =>
    have hRl : R = l ++ [y] := by rw [hhit, addD, if_neg (by rw [hh]; decide)]
    subst hRl
    have ha := add_new c l y (by omega) hh
    rw [hye] at ha
    rw [grew_snoc, verP_snoc]
    refine callM_of [63, 64] [63, 64] (ha) ⟨by simp [renA, ren1, invM, posOf, verOf, AV.cellP, Env.go], rfl, rfl, by simp, by simp, by simp, by simp, rfl, rfl, rfl, onodup_of (l := [21, 18]) rfl (by decide)⟩ ?_
    simp only [go_sem, seval]
    simp
end Go.Proofs.YtbhgehhmjpipiaaGreat.C12
