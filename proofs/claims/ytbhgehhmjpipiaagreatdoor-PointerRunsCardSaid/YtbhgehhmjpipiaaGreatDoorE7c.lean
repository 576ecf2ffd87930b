/- Chapter 12: derivations added, gates. -/
import Derived.Test.YtbhgehhmjpipiaaGreatDoorE3
import Derived.Test.YtbhgehhmjpipiaaGreatDoorD0
set_option linter.unusedSimpArgs false
set_option linter.unusedVariables false
namespace Go.Proofs.YtbhgehhmjpipiaaGreatDoor.C12
open Go Go.Proofs Go.Proofs.YtbhgehhmjpipiaaGreatDoor.Ab Go.Proofs.YtbhgehhmjpipiaaGreatDoor.C10
set_option maxRecDepth 100000
attribute [local congr] ite_ctx
def cc (c : Case) : CC := ⟨c.users.length, c.sec.objects.length, auI c, spB c, incB⟩
def dObj (c : Case) (t v : Nat) : AV := .obj 1 160 5 false false [[.sl (c.sec.profiles.map encProf), .sl (c.sec.lists.map encAList), .sl (c.sec.objects.map encSecured), .sl (c.users.map encStr), .ref t v]]
attribute [go_sem] dObj
theorem encDer_eq (x : Der) : encDer x = [.int .i64 x.cap.job, .int .i64 x.cap.object, .int .i64 x.cap.kind, .int .i64 x.cap.auth, .int .i64 x.kind, .int .i64 x.source, .int .i64 x.writer, .int .i64 x.reader] := rfl
theorem isNew_good (x y : Der) : Ans Tryz.prog 132 [.agg (encDer y), .ptr (encDer x)] (.bool (decide (y.cap = x.cap))) := by
 have e : decide (y.cap = x.cap) = (decide (y.cap.job = x.cap.job) && (decide (y.cap.object = x.cap.object) && (decide (y.cap.kind = x.cap.kind) && decide (y.cap.auth = x.cap.auth)))) := by
  rw [Bool.eq_iff_iff]; simp [Cap.ext_iff']
 rw [e]
 refine good_run [] mixed Tryz.func132 rfl Tryz.ntmps132 (rs := [.tmp 3]) rfl (by decide +kernel) (by kernel_rfl) rfl ?_
 rw [startE_eq 9 _ _ _ rfl rfl]
 simp only [go_sem, seval]
theorem isGate_good (j s n : Int) (y : Der) : Ans Tryz.prog 202 [.agg (encDer y), .ptr [.int .i64 j], .ptr [.int .i64 s], .ptr [.int .i64 n]] (.bool (decide (y.cap.job = j ∧ y.cap.object = s ∧ y.cap.kind = 1 ∧ incB y.cap.auth n = true))) := by
 have hg := pinc_good y.cap.auth n
 refine Classical.byCases (fun h1 : y.cap.job = j => ?_) fun h1 => ?_
 case refine_2 =>
  have e : decide (y.cap.job = j ∧ y.cap.object = s ∧ y.cap.kind = 1 ∧ incB y.cap.auth n = true) = false := decide_eq_false fun q => h1 q.1
  rw [e]
  refine good_run [] mixed Tryz.func202 rfl Tryz.ntmps202 (rs := [.tmp 5]) rfl (by decide +kernel) (by kernel_rfl) rfl ?_
  rw [startE_eq 30 _ _ _ rfl rfl]
  simp only [go_sem, seval, h1, decide_false]
 refine Classical.byCases (fun h2 : y.cap.object = s => ?_) fun h2 => ?_
 case refine_2 =>
  have e : decide (y.cap.job = j ∧ y.cap.object = s ∧ y.cap.kind = 1 ∧ incB y.cap.auth n = true) = false := decide_eq_false fun q => h2 q.2.1
  rw [e]
  refine good_run [] mixed Tryz.func202 rfl Tryz.ntmps202 (rs := [.tmp 5]) rfl (by decide +kernel) (by kernel_rfl) rfl ?_
  rw [startE_eq 30 _ _ _ rfl rfl]
  simp only [go_sem, seval, h1, h2, decide_true, decide_false]
 refine Classical.byCases (fun h3 : y.cap.kind = 1 => ?_) fun h3 => ?_
 case refine_2 =>
  have e : decide (y.cap.job = j ∧ y.cap.object = s ∧ y.cap.kind = 1 ∧ incB y.cap.auth n = true) = false := decide_eq_false fun q => h3 q.2.2.1
  rw [e]
  refine good_run [] mixed Tryz.func202 rfl Tryz.ntmps202 (rs := [.tmp 5]) rfl (by decide +kernel) (by kernel_rfl) rfl ?_
  rw [startE_eq 30 _ _ _ rfl rfl]
  simp only [go_sem, seval, h1, h2, h3, decide_true, decide_false]
 have e : decide (y.cap.job = j ∧ y.cap.object = s ∧ y.cap.kind = 1 ∧ incB y.cap.auth n = true) = incB y.cap.auth n := by
  cases hi : incB y.cap.auth n <;> simp [h1, h2, h3]
 rw [e]
 refine good_run [] mixed Tryz.func202 rfl Tryz.ntmps202 (rs := [.tmp 5]) rfl (by decide +kernel) (by kernel_rfl) rfl ?_
 rw [startE_eq 30 _ _ _ rfl rfl]
 simp only [go_sem, seval, h1, h2, h3, decide_true]
 refine call_of (hg) ?_
 simp only [go_sem, seval]
theorem at_map {α : Type} [Inhabited α] {f : α → List AV} {l : List α} {i : Nat} (h : i < l.length) : (l.map f)[i]? = some (f (nth l i)) := by
 rw [List.getElem?_map, List.getElem?_eq_getElem h, nth_eq h]; rfl
theorem IndexDM {f : Nat} {caps : List AV} {p : Der → Bool} (hcap : caps.all AV.cellP = true) (hp : ∀ o, Ans Tryz.prog f (.agg (encDer o) :: caps) (.bool (p o))) (l : List Der) (h : l.length ≤ 1000000) :
 AnsM Tryz.prog 136 19 [.obj 1 63 8 false true (l.map encDer)] [.ref 19 1, .fn f caps] (.int .i64 (findIx p l 0)) [(19, .obj 1 63 8 false true (l.map encDer))] := by
 refine goodM_run [(2, [4, 5, 9, 10, 11, 12, 13, 14, 15, 16, 17, 18], [])] mixed Tryz.func136 rfl Tryz.ntmps136 (rs := [.tmp 4]) rfl (show wfCode 20 _ = true by decide +kernel) (by kernel_rfl) ?_
 rw [startM_eq 19 _ _ _ _ rfl rfl]
 simp only [go_sem, seval]
 refine loop_by ([4, 5, 9, 10, 11, 12, 13, 14, 15, 16, 17, 18], []) (fun i : Nat => [(.s 8, .int .i64 (i : Int))]) (fun i => l.length - i) (fun i => i ≤ l.length ∧ findIx p l 0 = findIx p (l.drop i) i) 0 rfl ⟨Nat.zero_le _, rfl⟩ rfl ?_
 rintro c' st' hst i ⟨hi, hf⟩ ih
 simp only [go_sem, seval]
 refine ifI (fun hlt => ?_) fun hlt => ?_
 · have hlt' : i < l.length := by omega
   have hq : (List.map encDer l)[i]? = some (encDer (nth l i)) := at_map hlt'
   simp only [go_sem, seval, hlt, hq, Option.map_some]
   refine call_of (hp (nth l i)) ?_
   simp only [go_sem, seval]
   refine ifI (fun hn => ?_) fun hn => ?_
   · simp only [go_sem, seval]
     rw [hf, drop_nth hlt, findIx, if_pos hn]
     simp
   · simp only [go_sem, seval]
     refine ih (i + 1) _ ⟨by omega, ?_⟩ (by omega) ?_
     · rw [hf, drop_nth hlt, findIx, if_neg hn]
     simp only [go_sem, seval, wrap_succ (show i < 9223372036854775807 by omega)]
 · subst hst
   simp only [go_sem, seval]
   rw [hf, List.drop_eq_nil_of_le (by omega)]
   simp [findIx]
theorem has_ix (l : List Der) (x : Cap) : decide (0 ≤ findIx (fun y : Der => decide (y.cap = x)) l 0) = has l x := findIx_any ..
theorem ContainsDM (l : List Der) (x : Der) (h : l.length ≤ 1000000) :
 AnsM Tryz.prog 95 9 [.obj 1 63 8 false true (l.map encDer)] [.ref 9 1, .fn 132 [.ptr (encDer x)]] (.bool (has l x.cap)) [(9, .obj 1 63 8 false true (l.map encDer))] := by
 rw [← has_ix, encDer_eq]
 refine goodM_run [] mixed Tryz.func95 rfl Tryz.ntmps95 (rs := [.tmp 4]) rfl (show wfCode 10 _ = true by decide +kernel) (by kernel_rfl) ?_
 rw [startM_eq 9 _ _ _ _ rfl rfl]
 simp only [go_sem, seval]
 refine callM_of [9] [9] (IndexDM (caps := [.ptr [.int .i64 x.cap.job, .int .i64 x.cap.object, .int .i64 x.cap.kind, .int .i64 x.cap.auth, .int .i64 x.kind, .int .i64 x.source, .int .i64 x.writer, .int .i64 x.reader]]) rfl (fun y => isNew_good x y) l h) ⟨by simp [renA, ren1, invM, posOf, verOf, AV.cellP, Env.go], rfl, rfl, by simp, by simp, by simp, by simp, rfl, rfl, rfl, onodup_of (l := [19]) rfl (by decide)⟩ ?_
 simp only [go_sem, seval]
 simp
set_option maxHeartbeats 4000000 in
theorem add_old (c : Case) (l : List Der) (x : Der) (hl : l.length ≤ 1000) (h : has l x.cap = true) :
 AnsM Tryz.prog 89 21 [dObj c 22 1, .obj 1 63 8 false true (l.map encDer)] [.loc 21 1 0 0, .agg (encDer x)] (.bool false) [(21, dObj c 22 1), (22, .obj 1 63 8 false true (l.map encDer))] := by
 have hc := ContainsDM l x (by omega)
 rw [h, encDer_eq] at hc
 refine goodM_run [] mixed Tryz.func89 rfl Tryz.ntmps89 (rs := [.tmp 4]) rfl (show wfCode 23 _ = true by decide +kernel) (by kernel_rfl) ?_
 rw [startM_eq 21 _ _ _ _ rfl rfl]
 simp only [go_sem, seval]
 refine callM_of [22] [22] (hc) ⟨by simp [renA, ren1, invM, posOf, verOf, AV.cellP, Env.go], rfl, rfl, by simp, by simp, by simp, by simp, rfl, rfl, rfl, onodup_of (l := [9]) rfl (by decide)⟩ ?_
 simp only [go_sem, seval]
 simp
set_option maxHeartbeats 4000000 in
theorem add_new (c : Case) (l : List Der) (x : Der) (hl : l.length ≤ 1000) (h : has l x.cap = false) :
 AnsM Tryz.prog 89 21 [dObj c 22 1, .obj 1 63 8 false true (l.map encDer)] [.loc 21 1 0 0, .agg (encDer x)] (.bool true) [(21, dObj c 18 1), (18, .obj 1 63 8 false true ((l ++ [x]).map encDer))] := by
 have hc := ContainsDM l x (by omega)
 rw [h, encDer_eq] at hc
 have hr : List.map encDer (l ++ [x]) = List.map encDer l ++ [encDer x] := by simp
 have f1 : (l.length + 1) * 64 ≤ 140737488355328 := by omega
 have f2 : l.length + 1 ≤ maxLen := by unfold maxLen; omega
 rw [hr, encDer_eq]
 refine goodM_run [] mixed Tryz.func89 rfl Tryz.ntmps89 (rs := [.tmp 4]) rfl (show wfCode 23 _ = true by decide +kernel) (by kernel_rfl) ?_
 rw [startM_eq 21 _ _ _ _ rfl rfl]
 simp only [go_sem, seval]
 refine callM_of [22] [22] (hc) ⟨by simp [renA, ren1, invM, posOf, verOf, AV.cellP, Env.go], rfl, rfl, by simp, by simp, by simp, by simp, rfl, rfl, rfl, onodup_of (l := [9]) rfl (by decide)⟩ ?_
 simp only [go_sem, seval]
 simp only [go_sem, seval, f1, f2]
 refine ⟨by decide +kernel, ?_⟩
 simp
set_option maxRecDepth 100000
theorem gate_ix (c : Case) (l : List Der) (j s n : Int) : gate (cc c) l j s n = findIx (fun y : Der => decide (y.cap.job = j ∧ y.cap.object = s ∧ y.cap.kind = 1 ∧ incB y.cap.auth n = true)) l 0 := by
 have : ∀ (l : List Der) (i : Nat), gateGo (cc c) j s n l i = findIx (fun y : Der => decide (y.cap.job = j ∧ y.cap.object = s ∧ y.cap.kind = 1 ∧ incB y.cap.auth n = true)) l i := by
  intro l
  induction l with
  | nil => intro i; rfl
  | cons y l ih =>
    intro i
    unfold gateGo findIx
    rw [ih (i + 1)]
    have e : (cc c).inc = incB := rfl
    rw [e]
    by_cases q : y.cap.job = j ∧ y.cap.object = s ∧ y.cap.kind = 1 ∧ incB y.cap.auth n = true
    · rw [if_pos q, if_pos (decide_eq_true q)]
    · rw [if_neg q, if_neg (by rw [decide_eq_false q]; decide)]
 exact this l 0
theorem gate_good (c : Case) (l : List Der) (hl : l.length ≤ 1000) (j s n : Int) :
 AnsM Tryz.prog 167 15 [dObj c 16 1, .obj 1 63 8 false true (l.map encDer)] [.loc 15 1 0 0, .int .i64 j, .int .i64 s, .int .i64 n] (.int .i64 (gate (cc c) l j s n)) [(15, dObj c 16 1), (16, .obj 1 63 8 false true (l.map encDer))] := by
 rw [gate_ix]
 refine goodM_run [] mixed Tryz.func167 rfl Tryz.ntmps167 (rs := [.tmp 8]) rfl (show wfCode 17 _ = true by decide +kernel) (by kernel_rfl) ?_
 rw [startM_eq 15 _ _ _ _ rfl rfl]
 simp only [go_sem, seval]
 refine callM_of [16] [16] (IndexDM (caps := [.ptr [.int .i64 j], .ptr [.int .i64 s], .ptr [.int .i64 n]]) rfl (fun y => isGate_good j s n y) l (by omega)) ⟨by simp [renA, ren1, invM, posOf, verOf, AV.cellP, Env.go], rfl, rfl, by simp, by simp, by simp, by simp, rfl, rfl, rfl, onodup_of (l := [19]) rfl (by decide)⟩ ?_
 simp only [go_sem, seval]
 simp
def grew (l m : List Der) : Bool := decide (l.length < m.length)
def verP (l m : List Der) : Nat := if l.length < m.length then 2 else 1
theorem grew_same (l : List Der) : grew l l = false := by simp [grew]
theorem verP_same (l : List Der) : verP l l = 1 := by simp [verP]
theorem grew_snoc (l : List Der) (x : Der) : grew l (l ++ [x]) = true := by simp [grew]
theorem verP_snoc (l : List Der) (x : Der) : verP l (l ++ [x]) = 2 := by simp [verP]
theorem pass_skip {C : CC} {l : List Der} {x : Cap} {i j s : Nat} {R : List Der} (hs : s < C.O) (h : R = passGo C l x i j ((List.range C.O).drop s)) (hn : ¬ (C.sp (s : Int) = true ∧ 0 ≤ gate C l x.job (s : Int) 128 ∧ 0 ≤ gate C l (j : Int) (s : Int) 32)) : R = passGo C l x i j ((List.range C.O).drop (s + 1)) := by
 rw [h, List.drop_eq_getElem_cons (by simpa using hs), List.getElem_range, passGo, if_neg hn]
theorem pass_hit {C : CC} {l : List Der} {x : Cap} {i j s : Nat} {R : List Der} (hs : s < C.O) (h : R = passGo C l x i j ((List.range C.O).drop s)) (hn : C.sp (s : Int) = true ∧ 0 ≤ gate C l x.job (s : Int) 128 ∧ 0 ≤ gate C l (j : Int) (s : Int) 32) :
 R = addD l ⟨⟨(j : Int), x.object, x.kind, x.auth⟩, 2, (i : Int), gate C l x.job (s : Int) 128, gate C l (j : Int) (s : Int) 32⟩ := by
 rw [h, List.drop_eq_getElem_cons (by simpa using hs), List.getElem_range, passGo, if_pos hn]
set_option maxHeartbeats 8000000 in
theorem pass_good (c : Case) (hO : c.sec.objects.length ≤ 1000) (l : List Der) (hl : l.length ≤ 999) (i j : Nat) (hi : i < l.length) :
 AnsM Tryz.prog 133 63 [dObj c 64 1, .obj 1 63 8 false true (l.map encDer)] [.loc 63 1 0 0, .int .i64 (i : Int), .int .i64 (j : Int)] (.bool (grew l (pass (cc c) l i j)))
  [(63, dObj c 64 (verP l (pass (cc c) l i j))), (64, .obj (verP l (pass (cc c) l i j)) 63 8 false true ((pass (cc c) l i j).map encDer))] := by
 have hR : pass (cc c) l i j = passGo (cc c) l (nth l i).cap i j ((List.range (cc c).O).drop 0) := rfl
 have hOO : (cc c).O = c.sec.objects.length := rfl
 generalize pass (cc c) l i j = R at hR
 generalize hx : nth l i = x at hR
 have hq : (List.map encDer l)[i]? = some (encDer x) := by rw [at_map hi, hx]
 have hi2 : (i : Int) < (l.length : Int) := by omega
 refine goodM_run [(3, [6, 8, 9, 10, 11, 28, 29, 30, 31, 32, 33, 34, 35, 36, 37, 38, 39, 40, 41, 42, 43, 44, 45, 46, 47, 48, 49, 50, 51, 52, 53, 54, 55, 56, 57, 58, 59, 60, 61, 62], [11])] mixed Tryz.func133 rfl Tryz.ntmps133 (rs := [.tmp 6]) rfl (show wfCode 65 _ = true by decide +kernel) (by kernel_rfl) ?_
 rw [startM_eq 63 _ _ _ _ rfl rfl]
 simp only [go_sem, seval, hi, hi2, hq, Option.map_some]
 refine loop_by ([6, 8, 9, 10, 11, 28, 29, 30, 31, 32, 33, 34, 35, 36, 37, 38, 39, 40, 41, 42, 43, 44, 45, 46, 47, 48, 49, 50, 51, 52, 53, 54, 55, 56, 57, 58, 59, 60, 61, 62], [11]) (fun s : Nat => [(.s 27, .int .i64 (s : Int))]) (fun s => c.sec.objects.length - s) (fun s => s ≤ c.sec.objects.length ∧ R = passGo (cc c) l x.cap i j ((List.range (cc c).O).drop s)) 0 rfl ⟨Nat.zero_le _, hR⟩ rfl ?_
 rintro c' st' hst s ⟨hs, hf⟩ ih
 simp only [go_sem, seval]
 refine ifI (fun hlt => ?_) fun hlt => ?_
 case refine_2 =>
  subst hst
  have hRl : R = l := by rw [hf, List.drop_eq_nil_of_le (by simp; omega)]; rfl
  subst hRl
  rw [grew_same, verP_same]
  simp only [go_sem, seval, hlt]
  simp
 have hs' : s < (cc c).O := by omega
 simp only [go_sem, seval, hlt]
 refine call_of (isSpace_good c (s : Int) (by omega)) ?_
 simp only [go_sem, seval]
 refine Classical.byCases (fun hsp : spB c (s : Int) = true => ?_) fun hsp => ?_
 case refine_2 =>
  have hsp' : spB c (s : Int) = false := by simpa using hsp
  simp only [go_sem, seval, hsp', Bool.not_false]
  refine ih (s + 1) _ ⟨by omega, pass_skip hs' hf fun q => hsp q.1⟩ (by omega) ?_
  simp only [go_sem, seval, wrap_succ (show s < 9223372036854775807 by omega)]
 simp only [go_sem, seval, hsp, Bool.not_true]
 refine callM_of [63, 64] [63, 64] (gate_good c l (by omega) x.cap.job (s : Int) 128) ⟨by simp [renA, ren1, invM, posOf, verOf, AV.cellP, Env.go], rfl, rfl, by simp, by simp, by simp, by simp, rfl, rfl, rfl, onodup_of (l := [15, 16]) rfl (by decide)⟩ ?_
 simp only [go_sem, seval]
 refine callM_of [63, 64] [63, 64] (gate_good c l (by omega) (j : Int) (s : Int) 32) ⟨by simp [renA, ren1, invM, posOf, verOf, AV.cellP, Env.go], rfl, rfl, by simp, by simp, by simp, by simp, rfl, rfl, rfl, onodup_of (l := [15, 16]) rfl (by decide)⟩ ?_
 simp only [go_sem, seval]
 refine Classical.byCases (fun hw : gate (cc c) l x.cap.job (s : Int) 128 ≥ 0 => ?_) fun hw => ?_
 case refine_2 =>
  simp only [go_sem, seval, hw, decide_false]
  refine ih (s + 1) _ ⟨by omega, pass_skip hs' hf fun q => hw q.2.1⟩ (by omega) ?_
  simp only [go_sem, seval, wrap_succ (show s < 9223372036854775807 by omega)]
 refine Classical.byCases (fun hr : gate (cc c) l (j : Int) (s : Int) 32 ≥ 0 => ?_) fun hr => ?_
 case refine_2 =>
  simp only [go_sem, seval, hw, hr, decide_false, decide_true]
  refine ih (s + 1) _ ⟨by omega, pass_skip hs' hf fun q => hr q.2.2⟩ (by omega) ?_
  simp only [go_sem, seval, wrap_succ (show s < 9223372036854775807 by omega)]
 simp only [go_sem, seval, hw, hr, decide_true]
 have hhit := pass_hit hs' hf ⟨hsp, hw, hr⟩
 clear ih
 generalize hy : (⟨⟨(j : Int), x.cap.object, x.cap.kind, x.cap.auth⟩, 2, (i : Int), gate (cc c) l x.cap.job (s : Int) 128, gate (cc c) l (j : Int) (s : Int) 32⟩ : Der) = y at hhit
 have hye : encDer y = [.int .i64 (j : Int), .int .i64 x.cap.object, .int .i64 x.cap.kind, .int .i64 x.cap.auth, .int .i64 2, .int .i64 (i : Int), .int .i64 (gate (cc c) l x.cap.job (s : Int) 128), .int .i64 (gate (cc c) l (j : Int) (s : Int) 32)] := by rw [← hy]; rfl
 cases hh : has l y.cap with
 | true =>
   have hRl : R = l := by rw [hhit, addD, if_pos hh]
   subst hRl
   have ha := add_old c R y (by omega) hh
   rw [hye] at ha
   rw [grew_same, verP_same]
   refine callM_of [63, 64] [63, 64] (ha) ⟨by simp [renA, ren1, invM, posOf, verOf, AV.cellP, Env.go], rfl, rfl, by simp, by simp, by simp, by simp, rfl, rfl, rfl, onodup_of (l := [21, 22]) rfl (by decide)⟩ ?_
   simp only [go_sem, seval]
   simp
 | false =>
   have hRl : R = l ++ [y] := by rw [hhit, addD, if_neg (by rw [hh]; decide)]
   subst hRl
   have ha := add_new c l y (by omega) hh
   rw [hye] at ha
   rw [grew_snoc, verP_snoc]
   refine callM_of [63, 64] [63, 64] (ha) ⟨by simp [renA, ren1, invM, posOf, verOf, AV.cellP, Env.go], rfl, rfl, by simp, by simp, by simp, by simp, rfl, rfl, rfl, onodup_of (l := [21, 18]) rfl (by decide)⟩ ?_
   simp only [go_sem, seval]
   simp
set_option maxRecDepth 100000
theorem passGo_one {C : CC} {l : List Der} {x : Cap} {i j : Nat} : ∀ ss : List Nat, passGo C l x i j ss = l ∨ ∃ y, passGo C l x i j ss = l ++ [y]
 | [] => .inl rfl
 | s :: ss => by
   unfold passGo; split
   · unfold addD; split
     · exact .inl rfl
     · exact .inr ⟨_, rfl⟩
   · exact passGo_one ss
theorem pass_one (C : CC) (l : List Der) (i j : Nat) : pass C l i j = l ∨ ∃ y, pass C l i j = l ++ [y] := passGo_one _
theorem drop_range {n i : Nat} (h : i < n) : (List.range n).drop i = i :: (List.range n).drop (i + 1) := by
 rw [List.drop_eq_getElem_cons (by simpa using h), List.getElem_range]
structure RInv (C : CC) (l0 m : List Der) (k : Nat) : Prop where
 ok : DOk C m
 pre : l0 <+: m
 len : m.length = l0.length + k
theorem RInv.snoc {C : CC} {l0 m m' : List Der} {k : Nat} (h : RInv C l0 m k) (hm : m <+: m') (ho : DOk C m') {y : Der} (he : m' = m ++ [y]) : RInv C l0 m' (k + 1) :=
 ⟨ho, h.pre.trans hm, by rw [he, List.length_append, h.len]; rfl⟩
set_option maxHeartbeats 16000000 in
theorem round_good (c : Case) (hF : (cc c).Fit) (l0 : List Der) (h0 : DOk (cc c) l0) :
 AnsM Tryz.prog 90 75 [dObj c 76 1, .obj 1 63 8 false true (l0.map encDer)] [.loc 75 1 0 0] (.bool (decide (0 < (round (cc c) l0).length - l0.length)))
  [(75, dObj c 76 ((round (cc c) l0).length - l0.length + 1)), (76, .obj ((round (cc c) l0).length - l0.length + 1) 63 8 false true ((round (cc c) l0).map encDer))] := by
 have hO : c.sec.objects.length ≤ 5 := hF.O
 have hR : round (cc c) l0 = roundGo (cc c) l0 ((List.range l0.length).drop 0) := rfl
 generalize round (cc c) l0 = R at hR
 refine goodM_run [(9, [6, 59, 60, 61, 62, 63, 64, 65, 66, 67, 68, 69, 70, 71, 72], []), (3, [4, 5, 6, 13, 14, 15, 16, 17, 18, 19, 20, 21, 22, 23, 24, 25, 26, 27, 28, 29, 30, 31, 32, 33, 34, 35, 36, 37, 38, 39, 40, 41, 42, 43, 44, 45, 46, 47, 48, 49, 50, 51, 52, 53, 54, 55, 56, 57, 58, 59, 60, 61, 62, 63, 64, 65, 66, 67, 68, 69, 70, 71, 72, 73], [5])] mixed Tryz.func90 rfl Tryz.ntmps90 (rs := [.tmp 2]) rfl (show wfCode 77 _ = true by decide +kernel) (by kernel_rfl) ?_
 rw [startM_eq 75 _ _ _ _ rfl rfl]
 simp only [go_sem, seval]
 refine loop_by ([4, 5, 6, 13, 14, 15, 16, 17, 18, 19, 20, 21, 22, 23, 24, 25, 26, 27, 28, 29, 30, 31, 32, 33, 34, 35, 36, 37, 38, 39, 40, 41, 42, 43, 44, 45, 46, 47, 48, 49, 50, 51, 52, 53, 54, 55, 56, 57, 58, 59, 60, 61, 62, 63, 64, 65, 66, 67, 68, 69, 70, 71, 72, 73], [5]) (fun x : Nat × List Der × Nat => [(.s 12, .int .i64 (x.1 : Int)), (.s 3, .bool (decide (0 < x.2.2))), (.o 5, deadV x.1), (.o 75, dObj c 76 (x.2.2 + 1)), (.o 76, .obj (x.2.2 + 1) 63 8 false true (x.2.1.map encDer))]) (fun x => l0.length - x.1)
  (fun x => x.1 ≤ l0.length ∧ RInv (cc c) l0 x.2.1 x.2.2 ∧ R = roundGo (cc c) x.2.1 ((List.range l0.length).drop x.1)) (0, l0, 0) rfl ⟨Nat.zero_le _, ⟨h0, List.prefix_refl _, rfl⟩, hR⟩ ?_ ?_
 · simp only [go_sem, seval]
 rintro c' st' hst ⟨i, m, k⟩ ⟨hi, hI, hf⟩ ih
 simp only at hi hI hf ih ⊢
 simp only [go_sem, seval]
 refine ifI (fun hlt => ?_) fun hlt => ?_
 case refine_2 =>
  subst hst
  have hRm : R = m := by rw [hf, List.drop_eq_nil_of_le (by simp; omega)]; rfl
  have hk : k = R.length - l0.length := by rw [hRm, hI.len]; omega
  rw [← hk, hRm]
  simp only [go_sem, seval, hlt]
  simp
 have hRR : R = roundGo (cc c) (stepD (cc c) m i) ((List.range l0.length).drop (i + 1)) := by
  rw [hf, drop_range (show i < l0.length by omega)]; rfl
 have hU : c.users.length ≤ 3 := hF.J
 have hm60 := hF.len hI.ok
 have him : i < m.length := by have := hI.len; omega
 have him2 : (i : Int) < (m.length : Int) := by omega
 generalize hx : nth m i = x
 have hgm : m.getD i default = x := hx
 have hq : (List.map encDer m)[i]? = some (encDer x) := by rw [at_map him, hx]
 have hst2 : stepD (cc c) m i = jobsD (cc c) (addrD (cc c) m i) i ((List.range c.users.length).drop 0) := rfl
 rw [hst2] at hRR
 have hsp := isSpace_good c x.cap.object (by omega)
 have hin := pinc_good x.cap.auth 128
 simp only [go_sem, seval, hlt, him, him2, hq, Option.map_some]
 refine Classical.byCases (fun hk1' : x.cap.kind = 1 => ?_) fun hk1' => ?_
 case refine_2 =>
  have hkf : (x.cap.kind = 1) = False := eq_false hk1'
  simp only [go_sem, seval, hkf, decide_false]
  refine ⟨by decide +kernel, ?_⟩
  have hch : (cc c).chan x.cap 128 = false := by simp [CC.chan, hk1']
  have had : addrD (cc c) m i = m := by unfold addrD; rw [hgm, hch, if_neg (by decide)]
  rw [had] at hRR
  obtain ⟨m1, k1, hm1, hk1⟩ : ∃ m1 k1, m1 = m ∧ k1 = k := ⟨m, k, rfl, rfl⟩
  have hI1 : RInv (cc c) l0 m1 k1 := by rw [hm1, hk1]; exact hI
  have hi1 : i < m1.length := by rw [hm1]; exact him
  have hx1 : nth m1 i = x := by rw [hm1]; exact hx
  have hf1 : R = roundGo (cc c) (jobsD (cc c) m1 i ((List.range c.users.length).drop 0)) ((List.range l0.length).drop (i + 1)) := by rw [hm1]; exact hRR
  rw [← hm1, ← hk1]
  have ihh := show id _ from ih
  clear ih
  refine loop_by ([6, 59, 60, 61, 62, 63, 64, 65, 66, 67, 68, 69, 70, 71, 72], []) (fun z : Nat × List Der × Nat => [(.s 58, .int .i64 (z.1 : Int)), (.s 3, .bool (decide (0 < z.2.2))), (.o 75, dObj c 76 (z.2.2 + 1)), (.o 76, .obj (z.2.2 + 1) 63 8 false true (z.2.1.map encDer))]) (fun z => c.users.length - z.1)
   (fun z => z.1 ≤ c.users.length ∧ RInv (cc c) l0 z.2.1 z.2.2 ∧ i < z.2.1.length ∧ nth z.2.1 i = x ∧ R = roundGo (cc c) (jobsD (cc c) z.2.1 i ((List.range c.users.length).drop z.1)) ((List.range l0.length).drop (i + 1))) (0, m1, k1) rfl ⟨Nat.zero_le _, hI1, hi1, hx1, hf1⟩ ?_ ?_
  · simp only [go_sem, seval]
  rintro c2 st2 hst2 ⟨j, n, q⟩ ⟨hj, hI2, hi2, hx2, hf2⟩ ih2
  simp only at hj hI2 hi2 hx2 hf2 ih2 ⊢
  simp only [go_sem, seval]
  refine ifI (fun hjl => ?_) fun hjl => ?_
  case refine_2 =>
   subst hst2
   simp only [go_sem, seval, hjl]
   refine ihh (i + 1, n, q) _ ⟨by simp only; omega, hI2, by rw [hf2, List.drop_eq_nil_of_le (by simp; omega)]; rfl⟩ (by simp only; omega) ?_
   simp only [go_sem, seval, wrap_succ (show i < 9223372036854775807 by omega)]
  have hjj : j < c.users.length := by omega
  simp only [go_sem, seval, hjl]
  have hgx : (n.getD i default).cap.job = x.cap.job := by rw [← hx2]; rfl
  refine Classical.byCases (fun hne : (j : Int) = x.cap.job => ?_) fun hne => ?_
  · have hnt : ((j : Int) = x.cap.job) = True := eq_true hne
    simp only [go_sem, seval, hnt, not_true_eq_false, decide_false]
    refine ih2 (j + 1, n, q) _ ⟨by simp only; omega, hI2, hi2, hx2, ?_⟩ (by simp only; omega) ?_
    · rw [hf2, drop_range hjj, jobsD, if_pos (by rw [hgx]; exact hne)]
    simp only [go_sem, seval, wrap_succ (show j < 9223372036854775807 by omega)]
  have hnt : ((j : Int) = x.cap.job) = False := eq_false hne
  have hps := pass_good c (by omega) n (by have := hF.len hI2.ok; omega) i j hi2
  have hstep : R = roundGo (cc c) (jobsD (cc c) (pass (cc c) n i j) i ((List.range c.users.length).drop (j + 1))) ((List.range l0.length).drop (i + 1)) := by
   rw [hf2, drop_range hjj, jobsD, if_neg (by rw [hgx]; exact hne)]
  have hok := pass_ok (cc c) hI2.ok hi2 hjj (by rw [hgx]; exact hne)
  simp only [go_sem, seval, hnt, not_false_eq_true, decide_true]
  rcases pass_one (cc c) n i j with e | ⟨y2, e⟩
  · rw [e] at hps hstep
    rw [grew_same, verP_same] at hps
    refine callM_of [75, 76] [75, 76] (hps) ⟨by simp [renA, ren1, invM, posOf, verOf, AV.cellP, Env.go], by simp [renObj, ren1, invM, posOf, verOf, AV.cellP, Env.go, dObj], rfl, by simp, by simp, by simp, by simp, rfl, rfl, rfl, onodup_of (l := [63, 64]) rfl (by decide)⟩ ?_
    simp only [go_sem, seval]
    refine ih2 (j + 1, n, q) _ ⟨by simp only; omega, hI2, hi2, hx2, hstep⟩ (by simp only; omega) ?_
    simp only [go_sem, seval, wrap_succ (show j < 9223372036854775807 by omega)]
  · have hI3 := hI2.snoc (pass_pre (cc c) n i j) hok e
    have hg : grew n (pass (cc c) n i j) = true := by rw [e]; exact grew_snoc ..
    have hv : verP n (pass (cc c) n i j) = 2 := by rw [e]; exact verP_snoc ..
    have hi3 : i < (pass (cc c) n i j).length := Nat.lt_of_lt_of_le hi2 (pre_len (pass_pre (cc c) n i j))
    have hx3 : nth (pass (cc c) n i j) i = x := by rw [← hx2]; exact pre_getD (pass_pre (cc c) n i j) hi2
    have hq1 : (0 < q + 1) = True := eq_true (Nat.succ_pos q)
    rw [hg, hv] at hps
    generalize pass (cc c) n i j = n' at hps hI3 hi3 hx3 hstep
    refine callM_of [75, 76] [75, 76] (hps) ⟨by simp [renA, ren1, invM, posOf, verOf, AV.cellP, Env.go], by simp [renObj, ren1, invM, posOf, verOf, AV.cellP, Env.go, dObj], rfl, by simp, by simp, by simp, by simp, rfl, rfl, rfl, onodup_of (l := [63, 64]) rfl (by decide)⟩ ?_
    simp only [go_sem, seval]
    refine ih2 (j + 1, n', q + 1) _ ⟨by simp only; omega, hI3, hi3, hx3, hstep⟩ (by simp only; omega) ?_
    simp only [go_sem, seval, wrap_succ (show j < 9223372036854775807 by omega), hq1, decide_true]
 have hkt : (x.cap.kind = 1) = True := eq_true hk1'
 refine Classical.byCases (fun hs' : spB c x.cap.object = true => ?_) fun hs' => ?_
 case refine_2 =>
  have hsf : spB c x.cap.object = false := by simpa using hs'
  rw [hsf] at hsp
  simp only [go_sem, seval, hkt, decide_true]
  refine callD_of (hsp) ?_
  simp only [go_sem, seval]
  refine ⟨by decide +kernel, ?_⟩
  have hch : (cc c).chan x.cap 128 = false := by simp [CC.chan, cc, hsf]
  have had : addrD (cc c) m i = m := by unfold addrD; rw [hgm, hch, if_neg (by decide)]
  rw [had] at hRR
  obtain ⟨m1, k1, hm1, hk1⟩ : ∃ m1 k1, m1 = m ∧ k1 = k := ⟨m, k, rfl, rfl⟩
  have hI1 : RInv (cc c) l0 m1 k1 := by rw [hm1, hk1]; exact hI
  have hi1 : i < m1.length := by rw [hm1]; exact him
  have hx1 : nth m1 i = x := by rw [hm1]; exact hx
  have hf1 : R = roundGo (cc c) (jobsD (cc c) m1 i ((List.range c.users.length).drop 0)) ((List.range l0.length).drop (i + 1)) := by rw [hm1]; exact hRR
  rw [← hm1, ← hk1]
  have ihh := show id _ from ih
  clear ih
  refine loop_by ([6, 59, 60, 61, 62, 63, 64, 65, 66, 67, 68, 69, 70, 71, 72], []) (fun z : Nat × List Der × Nat => [(.s 58, .int .i64 (z.1 : Int)), (.s 3, .bool (decide (0 < z.2.2))), (.o 75, dObj c 76 (z.2.2 + 1)), (.o 76, .obj (z.2.2 + 1) 63 8 false true (z.2.1.map encDer))]) (fun z => c.users.length - z.1)
   (fun z => z.1 ≤ c.users.length ∧ RInv (cc c) l0 z.2.1 z.2.2 ∧ i < z.2.1.length ∧ nth z.2.1 i = x ∧ R = roundGo (cc c) (jobsD (cc c) z.2.1 i ((List.range c.users.length).drop z.1)) ((List.range l0.length).drop (i + 1))) (0, m1, k1) rfl ⟨Nat.zero_le _, hI1, hi1, hx1, hf1⟩ ?_ ?_
  · simp only [go_sem, seval]
  rintro c2 st2 hst2 ⟨j, n, q⟩ ⟨hj, hI2, hi2, hx2, hf2⟩ ih2
  simp only at hj hI2 hi2 hx2 hf2 ih2 ⊢
  simp only [go_sem, seval]
  refine ifI (fun hjl => ?_) fun hjl => ?_
  case refine_2 =>
   subst hst2
   simp only [go_sem, seval, hjl]
   refine ihh (i + 1, n, q) _ ⟨by simp only; omega, hI2, by rw [hf2, List.drop_eq_nil_of_le (by simp; omega)]; rfl⟩ (by simp only; omega) ?_
   simp only [go_sem, seval, wrap_succ (show i < 9223372036854775807 by omega)]
  have hjj : j < c.users.length := by omega
  simp only [go_sem, seval, hjl]
  have hgx : (n.getD i default).cap.job = x.cap.job := by rw [← hx2]; rfl
  refine Classical.byCases (fun hne : (j : Int) = x.cap.job => ?_) fun hne => ?_
  · have hnt : ((j : Int) = x.cap.job) = True := eq_true hne
    simp only [go_sem, seval, hnt, not_true_eq_false, decide_false]
    refine ih2 (j + 1, n, q) _ ⟨by simp only; omega, hI2, hi2, hx2, ?_⟩ (by simp only; omega) ?_
    · rw [hf2, drop_range hjj, jobsD, if_pos (by rw [hgx]; exact hne)]
    simp only [go_sem, seval, wrap_succ (show j < 9223372036854775807 by omega)]
  have hnt : ((j : Int) = x.cap.job) = False := eq_false hne
  have hps := pass_good c (by omega) n (by have := hF.len hI2.ok; omega) i j hi2
  have hstep : R = roundGo (cc c) (jobsD (cc c) (pass (cc c) n i j) i ((List.range c.users.length).drop (j + 1))) ((List.range l0.length).drop (i + 1)) := by
   rw [hf2, drop_range hjj, jobsD, if_neg (by rw [hgx]; exact hne)]
  have hok := pass_ok (cc c) hI2.ok hi2 hjj (by rw [hgx]; exact hne)
  simp only [go_sem, seval, hnt, not_false_eq_true, decide_true]
  rcases pass_one (cc c) n i j with e | ⟨y2, e⟩
  · rw [e] at hps hstep
    rw [grew_same, verP_same] at hps
    refine callM_of [75, 76] [75, 76] (hps) ⟨by simp [renA, ren1, invM, posOf, verOf, AV.cellP, Env.go], by simp [renObj, ren1, invM, posOf, verOf, AV.cellP, Env.go, dObj], rfl, by simp, by simp, by simp, by simp, rfl, rfl, rfl, onodup_of (l := [63, 64]) rfl (by decide)⟩ ?_
    simp only [go_sem, seval]
    refine ih2 (j + 1, n, q) _ ⟨by simp only; omega, hI2, hi2, hx2, hstep⟩ (by simp only; omega) ?_
    simp only [go_sem, seval, wrap_succ (show j < 9223372036854775807 by omega)]
  · have hI3 := hI2.snoc (pass_pre (cc c) n i j) hok e
    have hg : grew n (pass (cc c) n i j) = true := by rw [e]; exact grew_snoc ..
    have hv : verP n (pass (cc c) n i j) = 2 := by rw [e]; exact verP_snoc ..
    have hi3 : i < (pass (cc c) n i j).length := Nat.lt_of_lt_of_le hi2 (pre_len (pass_pre (cc c) n i j))
    have hx3 : nth (pass (cc c) n i j) i = x := by rw [← hx2]; exact pre_getD (pass_pre (cc c) n i j) hi2
    have hq1 : (0 < q + 1) = True := eq_true (Nat.succ_pos q)
    rw [hg, hv] at hps
    generalize pass (cc c) n i j = n' at hps hI3 hi3 hx3 hstep
    refine callM_of [75, 76] [75, 76] (hps) ⟨by simp [renA, ren1, invM, posOf, verOf, AV.cellP, Env.go], by simp [renObj, ren1, invM, posOf, verOf, AV.cellP, Env.go, dObj], rfl, by simp, by simp, by simp, by simp, rfl, rfl, rfl, onodup_of (l := [63, 64]) rfl (by decide)⟩ ?_
    simp only [go_sem, seval]
    refine ih2 (j + 1, n', q + 1) _ ⟨by simp only; omega, hI3, hi3, hx3, hstep⟩ (by simp only; omega) ?_
    simp only [go_sem, seval, wrap_succ (show j < 9223372036854775807 by omega), hq1, decide_true]
 rw [hs'] at hsp
 refine Classical.byCases (fun hi' : incB x.cap.auth 128 = true => ?_) fun hi' => ?_
 case refine_2 =>
  have hif : incB x.cap.auth 128 = false := by simpa using hi'
  rw [hif] at hin
  simp only [go_sem, seval, hkt, decide_true]
  refine callD_of (hsp) ?_
  simp only [go_sem, seval]
  refine callD_of (hin) ?_
  simp only [go_sem, seval]
  refine ⟨by decide +kernel, ?_⟩
  have hch : (cc c).chan x.cap 128 = false := by simp [CC.chan, cc, hif]
  have had : addrD (cc c) m i = m := by unfold addrD; rw [hgm, hch, if_neg (by decide)]
  rw [had] at hRR
  obtain ⟨m1, k1, hm1, hk1⟩ : ∃ m1 k1, m1 = m ∧ k1 = k := ⟨m, k, rfl, rfl⟩
  have hI1 : RInv (cc c) l0 m1 k1 := by rw [hm1, hk1]; exact hI
  have hi1 : i < m1.length := by rw [hm1]; exact him
  have hx1 : nth m1 i = x := by rw [hm1]; exact hx
  have hf1 : R = roundGo (cc c) (jobsD (cc c) m1 i ((List.range c.users.length).drop 0)) ((List.range l0.length).drop (i + 1)) := by rw [hm1]; exact hRR
  rw [← hm1, ← hk1]
  have ihh := show id _ from ih
  clear ih
  refine loop_by ([6, 59, 60, 61, 62, 63, 64, 65, 66, 67, 68, 69, 70, 71, 72], []) (fun z : Nat × List Der × Nat => [(.s 58, .int .i64 (z.1 : Int)), (.s 3, .bool (decide (0 < z.2.2))), (.o 75, dObj c 76 (z.2.2 + 1)), (.o 76, .obj (z.2.2 + 1) 63 8 false true (z.2.1.map encDer))]) (fun z => c.users.length - z.1)
   (fun z => z.1 ≤ c.users.length ∧ RInv (cc c) l0 z.2.1 z.2.2 ∧ i < z.2.1.length ∧ nth z.2.1 i = x ∧ R = roundGo (cc c) (jobsD (cc c) z.2.1 i ((List.range c.users.length).drop z.1)) ((List.range l0.length).drop (i + 1))) (0, m1, k1) rfl ⟨Nat.zero_le _, hI1, hi1, hx1, hf1⟩ ?_ ?_
  · simp only [go_sem, seval]
  rintro c2 st2 hst2 ⟨j, n, q⟩ ⟨hj, hI2, hi2, hx2, hf2⟩ ih2
  simp only at hj hI2 hi2 hx2 hf2 ih2 ⊢
  simp only [go_sem, seval]
  refine ifI (fun hjl => ?_) fun hjl => ?_
  case refine_2 =>
   subst hst2
   simp only [go_sem, seval, hjl]
   refine ihh (i + 1, n, q) _ ⟨by simp only; omega, hI2, by rw [hf2, List.drop_eq_nil_of_le (by simp; omega)]; rfl⟩ (by simp only; omega) ?_
   simp only [go_sem, seval, wrap_succ (show i < 9223372036854775807 by omega)]
  have hjj : j < c.users.length := by omega
  simp only [go_sem, seval, hjl]
  have hgx : (n.getD i default).cap.job = x.cap.job := by rw [← hx2]; rfl
  refine Classical.byCases (fun hne : (j : Int) = x.cap.job => ?_) fun hne => ?_
  · have hnt : ((j : Int) = x.cap.job) = True := eq_true hne
    simp only [go_sem, seval, hnt, not_true_eq_false, decide_false]
    refine ih2 (j + 1, n, q) _ ⟨by simp only; omega, hI2, hi2, hx2, ?_⟩ (by simp only; omega) ?_
    · rw [hf2, drop_range hjj, jobsD, if_pos (by rw [hgx]; exact hne)]
    simp only [go_sem, seval, wrap_succ (show j < 9223372036854775807 by omega)]
  have hnt : ((j : Int) = x.cap.job) = False := eq_false hne
  have hps := pass_good c (by omega) n (by have := hF.len hI2.ok; omega) i j hi2
  have hstep : R = roundGo (cc c) (jobsD (cc c) (pass (cc c) n i j) i ((List.range c.users.length).drop (j + 1))) ((List.range l0.length).drop (i + 1)) := by
   rw [hf2, drop_range hjj, jobsD, if_neg (by rw [hgx]; exact hne)]
  have hok := pass_ok (cc c) hI2.ok hi2 hjj (by rw [hgx]; exact hne)
  simp only [go_sem, seval, hnt, not_false_eq_true, decide_true]
  rcases pass_one (cc c) n i j with e | ⟨y2, e⟩
  · rw [e] at hps hstep
    rw [grew_same, verP_same] at hps
    refine callM_of [75, 76] [75, 76] (hps) ⟨by simp [renA, ren1, invM, posOf, verOf, AV.cellP, Env.go], by simp [renObj, ren1, invM, posOf, verOf, AV.cellP, Env.go, dObj], rfl, by simp, by simp, by simp, by simp, rfl, rfl, rfl, onodup_of (l := [63, 64]) rfl (by decide)⟩ ?_
    simp only [go_sem, seval]
    refine ih2 (j + 1, n, q) _ ⟨by simp only; omega, hI2, hi2, hx2, hstep⟩ (by simp only; omega) ?_
    simp only [go_sem, seval, wrap_succ (show j < 9223372036854775807 by omega)]
  · have hI3 := hI2.snoc (pass_pre (cc c) n i j) hok e
    have hg : grew n (pass (cc c) n i j) = true := by rw [e]; exact grew_snoc ..
    have hv : verP n (pass (cc c) n i j) = 2 := by rw [e]; exact verP_snoc ..
    have hi3 : i < (pass (cc c) n i j).length := Nat.lt_of_lt_of_le hi2 (pre_len (pass_pre (cc c) n i j))
    have hx3 : nth (pass (cc c) n i j) i = x := by rw [← hx2]; exact pre_getD (pass_pre (cc c) n i j) hi2
    have hq1 : (0 < q + 1) = True := eq_true (Nat.succ_pos q)
    rw [hg, hv] at hps
    generalize pass (cc c) n i j = n' at hps hI3 hi3 hx3 hstep
    refine callM_of [75, 76] [75, 76] (hps) ⟨by simp [renA, ren1, invM, posOf, verOf, AV.cellP, Env.go], by simp [renObj, ren1, invM, posOf, verOf, AV.cellP, Env.go, dObj], rfl, by simp, by simp, by simp, by simp, rfl, rfl, rfl, onodup_of (l := [63, 64]) rfl (by decide)⟩ ?_
    simp only [go_sem, seval]
    refine ih2 (j + 1, n', q + 1) _ ⟨by simp only; omega, hI3, hi3, hx3, hstep⟩ (by simp only; omega) ?_
    simp only [go_sem, seval, wrap_succ (show j < 9223372036854775807 by omega), hq1, decide_true]
 rw [hi'] at hin
 have hch : (cc c).chan x.cap 128 = true := by simp [CC.chan, cc, hk1', hs', hi']
 simp only [go_sem, seval, hkt, decide_true]
 refine callD_of (hsp) ?_
 simp only [go_sem, seval]
 refine callD_of (hin) ?_
 simp only [go_sem, seval]
 refine ⟨by decide +kernel, ?_⟩
 have had : addrD (cc c) m i = addD m ⟨⟨x.cap.job, x.cap.object, 0, 0⟩, 1, (i : Int), 0, 0⟩ := by unfold addrD; rw [hgm, if_pos hch]
 have hdk := addrD_ok (cc c) hI.ok him
 have hpr := addrD_pre (cc c) m i
 generalize hy : (⟨⟨x.cap.job, x.cap.object, 0, 0⟩, 1, (i : Int), 0, 0⟩ : Der) = y at had
 have hye : encDer y = [.int .i64 x.cap.job, .int .i64 x.cap.object, .int .i64 0, .int .i64 0, .int .i64 1, .int .i64 (i : Int), .int .i64 0, .int .i64 0] := by rw [← hy]; rfl
 cases hh : has m y.cap with
 | true =>
   have had2 : addrD (cc c) m i = m := by rw [had, addD, if_pos hh]
   have ha := add_old c m y (by omega) hh
   rw [hye] at ha
   rw [had2] at hRR
   refine callM_of [75, 76] [75, 76] (ha) ⟨by simp [renA, ren1, invM, posOf, verOf, AV.cellP, Env.go], by simp [renObj, ren1, invM, posOf, verOf, AV.cellP, Env.go, dObj], rfl, by simp, by simp, by simp, by simp, rfl, rfl, rfl, onodup_of (l := [21, 22]) rfl (by decide)⟩ ?_
   simp only [go_sem, seval]
   obtain ⟨m1, k1, hm1, hk1⟩ : ∃ m1 k1, m1 = m ∧ k1 = k := ⟨m, k, rfl, rfl⟩
   have hI1 : RInv (cc c) l0 m1 k1 := by rw [hm1, hk1]; exact hI
   have hi1 : i < m1.length := by rw [hm1]; exact him
   have hx1 : nth m1 i = x := by rw [hm1]; exact hx
   have hf1 : R = roundGo (cc c) (jobsD (cc c) m1 i ((List.range c.users.length).drop 0)) ((List.range l0.length).drop (i + 1)) := by rw [hm1]; exact hRR
   rw [← hm1, ← hk1]
   have ihh := show id _ from ih
   clear ih
   refine loop_by ([6, 59, 60, 61, 62, 63, 64, 65, 66, 67, 68, 69, 70, 71, 72], []) (fun z : Nat × List Der × Nat => [(.s 58, .int .i64 (z.1 : Int)), (.s 3, .bool (decide (0 < z.2.2))), (.o 75, dObj c 76 (z.2.2 + 1)), (.o 76, .obj (z.2.2 + 1) 63 8 false true (z.2.1.map encDer))]) (fun z => c.users.length - z.1)
    (fun z => z.1 ≤ c.users.length ∧ RInv (cc c) l0 z.2.1 z.2.2 ∧ i < z.2.1.length ∧ nth z.2.1 i = x ∧ R = roundGo (cc c) (jobsD (cc c) z.2.1 i ((List.range c.users.length).drop z.1)) ((List.range l0.length).drop (i + 1))) (0, m1, k1) rfl ⟨Nat.zero_le _, hI1, hi1, hx1, hf1⟩ ?_ ?_
   · simp only [go_sem, seval]
   rintro c2 st2 hst2 ⟨j, n, q⟩ ⟨hj, hI2, hi2, hx2, hf2⟩ ih2
   simp only at hj hI2 hi2 hx2 hf2 ih2 ⊢
   simp only [go_sem, seval]
   refine ifI (fun hjl => ?_) fun hjl => ?_
   case refine_2 =>
    subst hst2
    simp only [go_sem, seval, hjl]
    refine ihh (i + 1, n, q) _ ⟨by simp only; omega, hI2, by rw [hf2, List.drop_eq_nil_of_le (by simp; omega)]; rfl⟩ (by simp only; omega) ?_
    simp only [go_sem, seval, wrap_succ (show i < 9223372036854775807 by omega)]
   have hjj : j < c.users.length := by omega
   simp only [go_sem, seval, hjl]
   have hgx : (n.getD i default).cap.job = x.cap.job := by rw [← hx2]; rfl
   refine Classical.byCases (fun hne : (j : Int) = x.cap.job => ?_) fun hne => ?_
   · have hnt : ((j : Int) = x.cap.job) = True := eq_true hne
     simp only [go_sem, seval, hnt, not_true_eq_false, decide_false]
     refine ih2 (j + 1, n, q) _ ⟨by simp only; omega, hI2, hi2, hx2, ?_⟩ (by simp only; omega) ?_
     · rw [hf2, drop_range hjj, jobsD, if_pos (by rw [hgx]; exact hne)]
     simp only [go_sem, seval, wrap_succ (show j < 9223372036854775807 by omega)]
   have hnt : ((j : Int) = x.cap.job) = False := eq_false hne
   have hps := pass_good c (by omega) n (by have := hF.len hI2.ok; omega) i j hi2
   have hstep : R = roundGo (cc c) (jobsD (cc c) (pass (cc c) n i j) i ((List.range c.users.length).drop (j + 1))) ((List.range l0.length).drop (i + 1)) := by
    rw [hf2, drop_range hjj, jobsD, if_neg (by rw [hgx]; exact hne)]
   have hok := pass_ok (cc c) hI2.ok hi2 hjj (by rw [hgx]; exact hne)
   simp only [go_sem, seval, hnt, not_false_eq_true, decide_true]
   rcases pass_one (cc c) n i j with e | ⟨y2, e⟩
   · rw [e] at hps hstep
     rw [grew_same, verP_same] at hps
     refine callM_of [75, 76] [75, 76] (hps) ⟨by simp [renA, ren1, invM, posOf, verOf, AV.cellP, Env.go], by simp [renObj, ren1, invM, posOf, verOf, AV.cellP, Env.go, dObj], rfl, by simp, by simp, by simp, by simp, rfl, rfl, rfl, onodup_of (l := [63, 64]) rfl (by decide)⟩ ?_
     simp only [go_sem, seval]
     refine ih2 (j + 1, n, q) _ ⟨by simp only; omega, hI2, hi2, hx2, hstep⟩ (by simp only; omega) ?_
     simp only [go_sem, seval, wrap_succ (show j < 9223372036854775807 by omega)]
   · have hI3 := hI2.snoc (pass_pre (cc c) n i j) hok e
     have hg : grew n (pass (cc c) n i j) = true := by rw [e]; exact grew_snoc ..
     have hv : verP n (pass (cc c) n i j) = 2 := by rw [e]; exact verP_snoc ..
     have hi3 : i < (pass (cc c) n i j).length := Nat.lt_of_lt_of_le hi2 (pre_len (pass_pre (cc c) n i j))
     have hx3 : nth (pass (cc c) n i j) i = x := by rw [← hx2]; exact pre_getD (pass_pre (cc c) n i j) hi2
     have hq1 : (0 < q + 1) = True := eq_true (Nat.succ_pos q)
     rw [hg, hv] at hps
     generalize pass (cc c) n i j = n' at hps hI3 hi3 hx3 hstep
     refine callM_of [75, 76] [75, 76] (hps) ⟨by simp [renA, ren1, invM, posOf, verOf, AV.cellP, Env.go], by simp [renObj, ren1, invM, posOf, verOf, AV.cellP, Env.go, dObj], rfl, by simp, by simp, by simp, by simp, rfl, rfl, rfl, onodup_of (l := [63, 64]) rfl (by decide)⟩ ?_
     simp only [go_sem, seval]
     refine ih2 (j + 1, n', q + 1) _ ⟨by simp only; omega, hI3, hi3, hx3, hstep⟩ (by simp only; omega) ?_
     simp only [go_sem, seval, wrap_succ (show j < 9223372036854775807 by omega), hq1, decide_true]
 | false =>
   have had2 : addrD (cc c) m i = m ++ [y] := by rw [had, addD, if_neg (by rw [hh]; decide)]
   have ha := add_new c m y (by omega) hh
   rw [hye] at ha
   have hI1 := hI.snoc hpr hdk had2
   rw [had2] at hRR hpr hI1
   have hi1 : i < (m ++ [y]).length := Nat.lt_of_lt_of_le him (pre_len hpr)
   have hx1 : nth (m ++ [y]) i = x := by rw [← hx]; exact pre_getD hpr him
   have hq1 : (0 < k + 1) = True := eq_true (Nat.succ_pos k)
   generalize m ++ [y] = m1 at ha hI1 hi1 hx1 hRR
   have hf1 := hRR
   refine callM_of [75, 76] [75, 76] (ha) ⟨by simp [renA, ren1, invM, posOf, verOf, AV.cellP, Env.go], by simp [renObj, ren1, invM, posOf, verOf, AV.cellP, Env.go, dObj], rfl, by simp, by simp, by simp, by simp, rfl, rfl, rfl, onodup_of (l := [21, 18]) rfl (by decide)⟩ ?_
   simp only [go_sem, seval]
   obtain ⟨k1, hk1⟩ : ∃ k1, k1 = k + 1 := ⟨_, rfl⟩
   have hkk : (0 < k1) = True := eq_true (by omega)
   rw [← hk1] at hI1 ⊢
   have ihh := show id _ from ih
   clear ih
   refine loop_by ([6, 59, 60, 61, 62, 63, 64, 65, 66, 67, 68, 69, 70, 71, 72], []) (fun z : Nat × List Der × Nat => [(.s 58, .int .i64 (z.1 : Int)), (.s 3, .bool (decide (0 < z.2.2))), (.o 75, dObj c 76 (z.2.2 + 1)), (.o 76, .obj (z.2.2 + 1) 63 8 false true (z.2.1.map encDer))]) (fun z => c.users.length - z.1)
    (fun z => z.1 ≤ c.users.length ∧ RInv (cc c) l0 z.2.1 z.2.2 ∧ i < z.2.1.length ∧ nth z.2.1 i = x ∧ R = roundGo (cc c) (jobsD (cc c) z.2.1 i ((List.range c.users.length).drop z.1)) ((List.range l0.length).drop (i + 1))) (0, m1, k1) rfl ⟨Nat.zero_le _, hI1, hi1, hx1, hf1⟩ ?_ ?_
   · simp only [go_sem, seval, hkk, decide_true]
   rintro c2 st2 hst2 ⟨j, n, q⟩ ⟨hj, hI2, hi2, hx2, hf2⟩ ih2
   simp only at hj hI2 hi2 hx2 hf2 ih2 ⊢
   simp only [go_sem, seval]
   refine ifI (fun hjl => ?_) fun hjl => ?_
   case refine_2 =>
    subst hst2
    simp only [go_sem, seval, hjl]
    refine ihh (i + 1, n, q) _ ⟨by simp only; omega, hI2, by rw [hf2, List.drop_eq_nil_of_le (by simp; omega)]; rfl⟩ (by simp only; omega) ?_
    simp only [go_sem, seval, wrap_succ (show i < 9223372036854775807 by omega)]
   have hjj : j < c.users.length := by omega
   simp only [go_sem, seval, hjl]
   have hgx : (n.getD i default).cap.job = x.cap.job := by rw [← hx2]; rfl
   refine Classical.byCases (fun hne : (j : Int) = x.cap.job => ?_) fun hne => ?_
   · have hnt : ((j : Int) = x.cap.job) = True := eq_true hne
     simp only [go_sem, seval, hnt, not_true_eq_false, decide_false]
     refine ih2 (j + 1, n, q) _ ⟨by simp only; omega, hI2, hi2, hx2, ?_⟩ (by simp only; omega) ?_
     · rw [hf2, drop_range hjj, jobsD, if_pos (by rw [hgx]; exact hne)]
     simp only [go_sem, seval, wrap_succ (show j < 9223372036854775807 by omega)]
   have hnt : ((j : Int) = x.cap.job) = False := eq_false hne
   have hps := pass_good c (by omega) n (by have := hF.len hI2.ok; omega) i j hi2
   have hstep : R = roundGo (cc c) (jobsD (cc c) (pass (cc c) n i j) i ((List.range c.users.length).drop (j + 1))) ((List.range l0.length).drop (i + 1)) := by
    rw [hf2, drop_range hjj, jobsD, if_neg (by rw [hgx]; exact hne)]
   have hok := pass_ok (cc c) hI2.ok hi2 hjj (by rw [hgx]; exact hne)
   simp only [go_sem, seval, hnt, not_false_eq_true, decide_true]
   rcases pass_one (cc c) n i j with e | ⟨y2, e⟩
   · rw [e] at hps hstep
     rw [grew_same, verP_same] at hps
     refine callM_of [75, 76] [75, 76] (hps) ⟨by simp [renA, ren1, invM, posOf, verOf, AV.cellP, Env.go], by simp [renObj, ren1, invM, posOf, verOf, AV.cellP, Env.go, dObj], rfl, by simp, by simp, by simp, by simp, rfl, rfl, rfl, onodup_of (l := [63, 64]) rfl (by decide)⟩ ?_
     simp only [go_sem, seval]
     refine ih2 (j + 1, n, q) _ ⟨by simp only; omega, hI2, hi2, hx2, hstep⟩ (by simp only; omega) ?_
     simp only [go_sem, seval, wrap_succ (show j < 9223372036854775807 by omega)]
   · have hI3 := hI2.snoc (pass_pre (cc c) n i j) hok e
     have hg : grew n (pass (cc c) n i j) = true := by rw [e]; exact grew_snoc ..
     have hv : verP n (pass (cc c) n i j) = 2 := by rw [e]; exact verP_snoc ..
     have hi3 : i < (pass (cc c) n i j).length := Nat.lt_of_lt_of_le hi2 (pre_len (pass_pre (cc c) n i j))
     have hx3 : nth (pass (cc c) n i j) i = x := by rw [← hx2]; exact pre_getD (pass_pre (cc c) n i j) hi2
     have hq1 : (0 < q + 1) = True := eq_true (Nat.succ_pos q)
     rw [hg, hv] at hps
     generalize pass (cc c) n i j = n' at hps hI3 hi3 hx3 hstep
     refine callM_of [75, 76] [75, 76] (hps) ⟨by simp [renA, ren1, invM, posOf, verOf, AV.cellP, Env.go], by simp [renObj, ren1, invM, posOf, verOf, AV.cellP, Env.go, dObj], rfl, by simp, by simp, by simp, by simp, rfl, rfl, rfl, onodup_of (l := [63, 64]) rfl (by decide)⟩ ?_
     simp only [go_sem, seval]
     refine ih2 (j + 1, n', q + 1) _ ⟨by simp only; omega, hI3, hi3, hx3, hstep⟩ (by simp only; omega) ?_
     simp only [go_sem, seval, wrap_succ (show j < 9223372036854775807 by omega), hq1, decide_true]
set_option maxRecDepth 100000
theorem Right.cfit {c : Case} (h : Right c) : (cc c).Fit := ⟨h.J.2, h.O, fun o ho => spB_rng ho⟩
set_option maxHeartbeats 16000000 in
theorem derive_good (c : Case) (h : Right c) : Ans Tryz.prog 46 [.agg (encCase c)] (.sl ((derive (cc c)).map encDer)) := by
 have hF := h.cfit
 have hJ := h.J
 have hO := h.O
 generalize hD : derive (cc c) = D
 refine good_run [(3000002, [], [100000000000000000000009, 501908063043]), (13, [38, 39], []), (6, [5, 6, 21, 22, 23, 24, 25, 26, 27, 28, 29, 30, 31, 32, 33, 34, 35, 36], []), (3, [4, 5, 6, 14, 15, 16, 17, 18, 19, 20, 21, 22, 23, 24, 25, 26, 27, 28, 29, 30, 31, 32, 33, 34, 35, 36, 37], [])] mixed Tryz.func46 rfl Tryz.ntmps46 (rs := [.tmp 2]) rfl (by decide +kernel) (by kernel_rfl) rfl ?_
 rw [startE_eq 44 _ _ _ rfl rfl]
 simp only [go_sem, seval]
 refine loop_by ([4, 5, 6, 14, 15, 16, 17, 18, 19, 20, 21, 22, 23, 24, 25, 26, 27, 28, 29, 30, 31, 32, 33, 34, 35, 36, 37], []) (fun x : Nat × List Der => [(.s 13, .int .i64 (x.1 : Int)), (.o 9, dObj c 43 (x.2.length + 1)), (.o 43, .obj (x.2.length + 1) 63 8 false true (x.2.map encDer))]) (fun x => c.users.length - x.1)
  (fun x => x.1 ≤ c.users.length ∧ DOk (cc c) x.2 ∧ seeds (cc c) = seedsGo (cc c) x.2 ((List.range c.users.length).drop x.1)) (0, []) rfl ⟨Nat.zero_le _, .nil, rfl⟩ ?_ ?_
 · simp only [go_sem, seval]
 rintro c' st' hst ⟨j, m⟩ ⟨hj, hok, hf⟩ ih
 simp only at hj hok hf ih ⊢
 simp only [go_sem, seval]
 refine ifI (fun hlt => ?_) fun hlt => ?_
 · have hjj : j < c.users.length := by omega
   simp only [go_sem, seval, hlt]
   have ihh := show id _ from ih
   clear ih
   refine loop_by ([5, 6, 21, 22, 23, 24, 25, 26, 27, 28, 29, 30, 31, 32, 33, 34, 35, 36], []) (fun z : Nat × List Der => [(.s 20, .int .i64 (z.1 : Int)), (.o 9, dObj c 43 (z.2.length + 1)), (.o 43, .obj (z.2.length + 1) 63 8 false true (z.2.map encDer))]) (fun z => c.sec.objects.length - z.1)
    (fun z => z.1 ≤ c.sec.objects.length ∧ DOk (cc c) z.2 ∧ seeds (cc c) = seedsGo (cc c) (seedJ (cc c) z.2 j ((List.range c.sec.objects.length).drop z.1)) ((List.range c.users.length).drop (j + 1))) (0, m) rfl ⟨Nat.zero_le _, hok, by rw [hf, drop_range hjj]; rfl⟩ ?_ ?_
   · simp only [go_sem, seval]
   rintro c2 st2 hst2 ⟨k, n⟩ ⟨hk, hok2, hf2⟩ ih2
   simp only at hk hok2 hf2 ih2 ⊢
   simp only [go_sem, seval]
   refine ifI (fun hkl => ?_) fun hkl => ?_
   case refine_2 =>
    subst hst2
    simp only [go_sem, seval, hkl]
    refine ihh (j + 1, n) _ ⟨by simp only; omega, hok2, by rw [hf2, List.drop_eq_nil_of_le (by simp; omega)]; rfl⟩ (by simp only; omega) ?_
    simp only [go_sem, seval, wrap_succ (show j < 9223372036854775807 by omega)]
   have hkk : k < c.sec.objects.length := by omega
   have hn60 := hF.len hok2
   simp only [go_sem, seval, hkl]
   refine call_of (userAuthority_good h hjj hkk) ?_
   simp only [go_sem, seval]
   refine Classical.byCases (fun ha0 : auI c j k = 0 => ?_) fun ha0 => ?_
   · have hat : (auI c j k = 0) = True := eq_true ha0
     simp only [go_sem, seval, hat, not_true_eq_false, decide_false]
     refine ih2 (k + 1, n) _ ⟨by simp only; omega, hok2, ?_⟩ (by simp only; omega) ?_
     · rw [hf2, drop_range hkk, seedJ, if_pos (show (cc c).au j k = 0 from ha0)]
     simp only [go_sem, seval, wrap_succ (show k < 9223372036854775807 by omega)]
   have hat : (auI c j k = 0) = False := eq_false ha0
   have hstep : seeds (cc c) = seedsGo (cc c) (seedJ (cc c) (addD n ⟨⟨(j : Int), (k : Int), 1, auI c j k⟩, 0, 0, 0, 0⟩) j ((List.range c.sec.objects.length).drop (k + 1))) ((List.range c.users.length).drop (j + 1)) := by
    rw [hf2, drop_range hkk, seedJ, if_neg (show ¬ (cc c).au j k = 0 from ha0)]; rfl
   have hok3 := seedJ_ok (cc c) (j := j) hjj (ks := [k]) hok2 (fun i hi => by simp at hi; subst hi; exact hkk)
   simp only [seedJ, if_neg (show ¬ (cc c).au j k = 0 from ha0)] at hok3
   replace hok3 : DOk (cc c) (addD n ⟨⟨(j : Int), (k : Int), 1, auI c j k⟩, 0, 0, 0, 0⟩) := hok3
   simp only [go_sem, seval, hat, not_false_eq_true, decide_true]
   generalize hy : (⟨⟨(j : Int), (k : Int), 1, auI c j k⟩, 0, 0, 0, 0⟩ : Der) = y at hstep hok3
   have hye : encDer y = [.int .i64 (j : Int), .int .i64 (k : Int), .int .i64 1, .int .i64 (auI c j k), .int .i64 0, .int .i64 0, .int .i64 0, .int .i64 0] := by rw [← hy]; rfl
   cases hh : has n y.cap with
   | true =>
     have had : addD n y = n := by rw [addD, if_pos hh]
     rw [had] at hstep
     have ha := add_old c n y (by omega) hh
     rw [hye] at ha
     refine callM_of [9, 43] [9, 43] (ha) ⟨by simp [renA, ren1, invM, posOf, verOf, AV.cellP, Env.go], by simp [renObj, ren1, invM, posOf, verOf, AV.cellP, Env.go, dObj], rfl, by simp, by simp, by simp, by simp, rfl, rfl, rfl, onodup_of (l := [21, 22]) rfl (by decide)⟩ ?_
     simp only [go_sem, seval]
     refine ih2 (k + 1, n) _ ⟨by simp only; omega, hok2, hstep⟩ (by simp only; omega) ?_
     simp only [go_sem, seval, wrap_succ (show k < 9223372036854775807 by omega)]
   | false =>
     have had : addD n y = n ++ [y] := by rw [addD, if_neg (by rw [hh]; decide)]
     have hlen : (n ++ [y]).length = n.length + 1 := by simp
     rw [had] at hstep hok3
     have ha := add_new c n y (by omega) hh
     rw [hye] at ha
     generalize n ++ [y] = n' at ha hstep hok3 hlen
     refine callM_of [9, 43] [9, 43] (ha) ⟨by simp [renA, ren1, invM, posOf, verOf, AV.cellP, Env.go], by simp [renObj, ren1, invM, posOf, verOf, AV.cellP, Env.go, dObj], rfl, by simp, by simp, by simp, by simp, rfl, rfl, rfl, onodup_of (l := [21, 18]) rfl (by decide)⟩ ?_
     simp only [go_sem, seval]
     refine ih2 (k + 1, n') _ ⟨by simp only; omega, hok3, hstep⟩ (by simp only; omega) ?_
     simp only [go_sem, seval, wrap_succ (show k < 9223372036854775807 by omega), hlen]
 have hm : seeds (cc c) = m := by rw [hf, List.drop_eq_nil_of_le (by simp; omega)]; rfl
 clear ih
 subst hst
 simp only [go_sem, seval, hlt]
 refine loop_by ([38, 39], []) (fun x : List Der × Nat => [(.o 9, dObj c 43 (x.2 + 1)), (.o 43, .obj (x.2 + 1) 63 8 false true (x.1.map encDer))]) (fun x => 60 - x.1.length)
  (fun x => DOk (cc c) x.1 ∧ ∃ n, D = deriveN (cc c) n x.1 ∧ 60 - x.1.length ≤ n) (m, m.length) rfl ⟨hok, 60, by rw [← hD, derive, hm], by omega⟩ ?_ ?_
 · simp only [go_sem, seval]
 rintro c2 st2 hst2 ⟨l, v⟩ ⟨hok2, n, hDn, hn⟩ ih2
 simp only at hok2 hDn hn ih2 ⊢
 have hrd := round_good c hF l hok2
 have hpre := pre_len (round_pre (cc c) l)
 simp only [go_sem, seval]
 refine Classical.byCases (fun hs : (round (cc c) l).length = l.length => ?_) fun hs => ?_
 · have hDl : D = l := by rw [hDn, deriveN_stop (cc c) hs]
   rw [hs, pre_eq (round_pre (cc c) l) hs, Nat.sub_self] at hrd
   replace hrd : AnsM Tryz.prog 90 75 [dObj c 76 1, .obj 1 63 8 false true (l.map encDer)] [.loc 75 1 0 0] (.bool false) [(75, dObj c 76 1), (76, .obj 1 63 8 false true (l.map encDer))] := hrd
   subst hst2
   refine callM_of [9, 43] [9, 43] (hrd) ⟨by simp [renA, ren1, invM, posOf, verOf, AV.cellP, Env.go], by simp [renObj, ren1, invM, posOf, verOf, AV.cellP, Env.go, dObj], rfl, by simp, by simp, by simp, by simp, rfl, rfl, rfl, onodup_of (l := [75, 76]) rfl (by decide)⟩ ?_
   simp only [go_sem, seval]
   rw [hDl]
 · obtain ⟨n2, hn2, hDn2, hb⟩ := deriveN_go hF hok2 hs hn
   have hok3 := round_ok (cc c) hok2
   have hg : decide (0 < (round (cc c) l).length - l.length) = true := decide_eq_true (by omega)
   have hlt60 := hF.len hok3
   obtain ⟨w, hw⟩ : ∃ w, (round (cc c) l).length - l.length = w + 1 := ⟨(round (cc c) l).length - l.length - 1, by omega⟩
   have hw1 : (w + 1 + 1 = 1) = False := eq_false (by omega)
   rw [hg, hw] at hrd
   have hms : 60 - (round (cc c) l).length < 60 - l.length := by omega
   rw [hDn2] at hDn
   generalize round (cc c) l = l' at hrd hDn hb hok3 hms
   refine callM_of [9, 43] [9, 43] (hrd) ⟨by simp [renA, ren1, invM, posOf, verOf, AV.cellP, Env.go], by simp [renObj, ren1, invM, posOf, verOf, AV.cellP, Env.go, dObj], rfl, by simp, by simp, by simp, by simp, rfl, rfl, rfl, onodup_of (l := [75, 76]) rfl (by decide)⟩ ?_
   simp only [go_sem, seval, hw1]
   refine ih2 (l', v + 1) _ ⟨hok3, n2, hDn, hb⟩ hms ?_
   simp only [go_sem, seval, hw1]
theorem Right.aut {c : Case} (h : Right c) : (cc c).Aut := ⟨h.cfit, fun j k hj hk => by
 have := authority_rng h.sound.weak (u := nth c.users j) (o := nth c.sec.objects k) (nth_mem hk)
 unfold rng at this
 exact ⟨this.1, Int.le_of_lt_add_one this.2⟩⟩
theorem rAuthority_good {c : Case} (h : Right c) {j k : Nat} (hj : j < c.users.length) (hk : k < c.sec.objects.length) : Ans Tryz.prog 55 [.agg (encSec c.sec), .str (nth c.users j), .int .i64 (k : Int)] (.agg [.int .i64 (auI c j k), .int .i64 (authorityP c.sec (nth c.users j) (nth c.sec.objects k)).reason, .str (authorityP c.sec (nth c.users j) (nth c.sec.objects k)).by_]) := by
 have hA := Authority_good c.sec (nth c.users j) (k : Int) h.sound (h.user j hj) ⟨by omega, by omega, by omega⟩
 have e2 : authorityP c.sec (nth c.users j) (objOf c.sec (k : Int)) = authorityP c.sec (nth c.users j) (nth c.sec.objects k) := by unfold objOf; rw [Int.toNat_natCast]
 rw [e2] at hA
 exact hA
end Go.Proofs.YtbhgehhmjpipiaaGreatDoor.C12
