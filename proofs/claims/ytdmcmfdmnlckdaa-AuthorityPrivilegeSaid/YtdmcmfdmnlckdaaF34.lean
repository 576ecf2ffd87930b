/- Chapter 10: more private authority: where it stands; the whole with it. -/
import Derived.Test.YtdmcmfdmnlckdaaF32
import Derived.Test.YtdmcmfdmnlckdaaF28
namespace Go.Proofs.Ytdmcmfdmnlckdaa.C10
open Go Go.Proofs Go.Proofs.Ytdmcmfdmnlckdaa.Ab
set_option linter.unusedSimpArgs false
set_option linter.unusedVariables false
attribute [local congr] ite_ctx

/-- The grants' users in their order. -/
def SortedG (l : List Grant) : Prop := l.Pairwise fun a b => sLt a.user b.user = true
def posG (l : List Grant) (u : ByteArray) : Nat := (l.takeWhile fun g => sLt g.user u).length
theorem posG_le (l : List Grant) (u : ByteArray) : posG l u ≤ l.length := by
  rw [posG]; exact (List.takeWhile_sublist _).length_le
theorem pos_iff {u : ByteArray} : ∀ {l : List Grant}, SortedG l → ∀ {h : Nat}, h < l.length → (h < posG l u ↔ sLt (nth l h).user u = true)
  | [], _, h, hh => absurd hh (Nat.not_lt_zero _)
  | g :: l, hs, h, hh => by
    obtain ⟨h1, h2⟩ := List.pairwise_cons.1 hs
    rw [posG, List.takeWhile_cons]
    cases hg : sLt g.user u with
    | true =>
      rw [if_pos rfl, List.length_cons]
      cases h with
      | zero => exact ⟨fun _ => hg, fun _ => Nat.succ_pos _⟩
      | succ h =>
        have ih := pos_iff (u := u) h2 (h := h) (by rw [List.length_cons] at hh; omega)
        rw [posG] at ih
        rw [Nat.add_lt_add_iff_right, ih]; rfl
    | false =>
      rw [if_neg (by decide)]
      constructor
      · intro q; exact absurd q (Nat.not_lt_zero _)
      · intro q
        cases h with
        | zero => rw [show nth (g :: l) 0 = g from rfl, hg] at q; cases q
        | succ h =>
          have hl : h < l.length := by rw [List.length_cons] at hh; omega
          have hm := h1 (nth l h) (nth_mem hl)
          have q' : sLt (nth l h).user u = true := q
          rw [sLt_trans hm q'] at hg; cases hg
theorem cmpG_good (g : Grant) (u : ByteArray) : Ans Try.prog 106 [.agg (encGrant g), .str u] (.int .i64 (Lib.compareBytes g.user.data.toList u.data.toList)) := by
  refine good_run [] mixed Try.func106 rfl Try.ntmps106 (rs := [.tmp 4]) rfl (by decide +kernel) (by kernel_rfl) rfl ?_
  rw [startE_eq 9 _ _ _ rfl rfl]
  set_option maxRecDepth 100000 in simp (maxSteps := 10000000) only [go_sem, Nat.reduceAdd, Nat.reduceSub, Nat.reduceMul, Nat.reduceLT, Nat.reduceLeDiff, Nat.reduceEqDiff, Nat.reduceMod, Nat.reduceDiv, Int.reduceNeg, Int.reduceLE, Int.reduceLT, Int.reduceToNat, Int.reduceEq, Int.reduceNe, ↓reduceIte]
  refine call_of (Compare_good g.user u) ?_
  set_option maxRecDepth 100000 in simp (maxSteps := 10000000) only [go_sem, Nat.reduceAdd, Nat.reduceSub, Nat.reduceMul, Nat.reduceLT, Nat.reduceLeDiff, Nat.reduceEqDiff, Nat.reduceMod, Nat.reduceDiv, Int.reduceNeg, Int.reduceLE, Int.reduceLT, Int.reduceToNat, Int.reduceEq, Int.reduceNe, ↓reduceIte]
theorem cmpG_lt (a b : ByteArray) : Lib.compareBytes a.data.toList b.data.toList < 0 ↔ sLt a b = true := by
  rw [cmpB_lt, sLt, ByteArray.toList_eq, ByteArray.toList_eq]

theorem half_i64 {a b : Nat} (h1 : a ≤ 1000000) (h2 : b ≤ 1000000) : IntKind.wrap .i64 ((a : Int) + (b : Int)) = ((a + b : Nat) : Int) := by
  rw [wrap_i64 (by omega) (by omega)]; omega
theorem half_u64 {a : Nat} (h : a ≤ 4000000) : IntKind.wrap .u64 (a : Int) = (a : Int) := by
  unfold IntKind.wrap
  simp [IntKind.signed, IntKind.bits]
  omega
set_option maxHeartbeats 4000000 in
theorem BSearchM (l : List Grant) (u : ByteArray) (hl : l.length ≤ 1000000) (hs : SortedG l) :
    ∃ b, AnsM Try.prog 105 49 [.obj 1 65 2 false true (l.map encGrant)] [.ref 49 1, .str u, .fn 106 []] (.tup [.int .i64 (posG l u : Int), .bool b]) [(49, .obj 1 65 2 false true (l.map encGrant))] := by
  have hp := posG_le l u
  refine ⟨decide (posG l u < l.length) && decide (Lib.compareBytes (nth l (posG l u)).user.data.toList u.data.toList = 0), ?_⟩
  refine goodM_run [(3, [11, 15, 16, 17, 18, 19, 20, 21, 22, 23, 24, 25, 26, 27, 28, 29, 30, 31, 32, 33, 34], [])] mixed Try.func105 rfl Try.ntmps105 (rs := [.tmp 6, .tmp 7]) rfl (show wfCode 50 _ = true by decide +kernel) (by kernel_rfl) ?_
  rw [startM_eq 49 _ _ _ _ rfl rfl]
  set_option maxRecDepth 100000 in simp (maxSteps := 10000000) only [go_sem, Nat.reduceAdd, Nat.reduceSub, Nat.reduceMul, Nat.reduceLT, Nat.reduceLeDiff, Nat.reduceEqDiff, Nat.reduceMod, Nat.reduceDiv, Int.reduceNeg, Int.reduceLE, Int.reduceLT, Int.reduceToNat, Int.reduceEq, Int.reduceNe, ↓reduceIte]
  refine loop_by ([11, 15, 16, 17, 18, 19, 20, 21, 22, 23, 24, 25, 26, 27, 28, 29, 30, 31, 32, 33, 34], []) (fun x : Nat × Nat => [(.s 9, .int .i64 (x.1 : Int)), (.s 10, .int .i64 (x.2 : Int))]) (fun x => x.2 - x.1) (fun x => x.1 ≤ posG l u ∧ posG l u ≤ x.2 ∧ x.2 ≤ l.length) (0, l.length) rfl ⟨Nat.zero_le _, hp, Nat.le_refl _⟩ ?_ ?_
  · set_option maxRecDepth 100000 in simp (maxSteps := 10000000) only [go_sem, Nat.reduceAdd, Nat.reduceSub, Nat.reduceMul, Nat.reduceLT, Nat.reduceLeDiff, Nat.reduceEqDiff, Nat.reduceMod, Nat.reduceDiv, Int.reduceNeg, Int.reduceLE, Int.reduceLT, Int.reduceToNat, Int.reduceEq, Int.reduceNe, ↓reduceIte,  List.length_map]
  rintro c' st' hst ⟨a, b⟩ ⟨h1, h2, h3⟩ ih
  simp only at h1 h2 h3
  set_option maxRecDepth 100000 in simp (maxSteps := 10000000) only [go_sem, Nat.reduceAdd, Nat.reduceSub, Nat.reduceMul, Nat.reduceLT, Nat.reduceLeDiff, Nat.reduceEqDiff, Nat.reduceMod, Nat.reduceDiv, Int.reduceNeg, Int.reduceLE, Int.reduceLT, Int.reduceToNat, Int.reduceEq, Int.reduceNe, ↓reduceIte]
  refine ifI (fun hlt => ?_) fun hlt => ?_
  · have hlt' : a < b := by omega
    obtain ⟨m, hmd, hfd⟩ : ∃ m : Nat, (2 * m ≤ a + b ∧ a + b < 2 * m + 2) ∧ Int.fdiv ((a + b : Nat) : Int) (2 ^ (min 1 64 : Nat)) = (m : Int) := by
      refine ⟨(a + b) / 2, by omega, ?_⟩
      show Int.fdiv ((a + b : Nat) : Int) 2 = _
      rw [Int.fdiv_eq_ediv_of_nonneg _ (by decide)]; omega
    have hm : m < l.length := by omega
    have hmi : (m : Int) < (l.length : Int) := by omega
    have w1 := half_i64 (a := a) (b := b) (by omega) (by omega)
    have w2 := half_u64 (a := a + b) (by omega)
    have w3 := half_u64 (a := m) (by omega)
    have w4 := wrap_nat (n := m) (by omega)
    have hc := cmpG_good (nth l m) u
    have hpi := pos_iff (u := u) hs hm
    rw [← cmpG_lt] at hpi
    have hq : (List.map encGrant l)[m]? = some (encGrant (nth l m)) := at_map hm
    set_option maxRecDepth 100000 in simp (maxSteps := 10000000) only [go_sem, Nat.reduceAdd, Nat.reduceSub, Nat.reduceMul, Nat.reduceLT, Nat.reduceLeDiff, Nat.reduceEqDiff, Nat.reduceMod, Nat.reduceDiv, Int.reduceNeg, Int.reduceLE, Int.reduceLT, Int.reduceToNat, Int.reduceEq, Int.reduceNe, ↓reduceIte,  w1, w2, hfd, w3, w4, hm, hmi, hq, Option.map_some, Try.underlying3, Try.underlying128]
    refine call_of (hc) ?_
    set_option maxRecDepth 100000 in simp (maxSteps := 10000000) only [go_sem, Nat.reduceAdd, Nat.reduceSub, Nat.reduceMul, Nat.reduceLT, Nat.reduceLeDiff, Nat.reduceEqDiff, Nat.reduceMod, Nat.reduceDiv, Int.reduceNeg, Int.reduceLE, Int.reduceLT, Int.reduceToNat, Int.reduceEq, Int.reduceNe, ↓reduceIte]
    refine ifI (fun h => ?_) fun h => ?_
    · have h5 := hpi.2 h
      set_option maxRecDepth 100000 in simp (maxSteps := 10000000) only [go_sem, Nat.reduceAdd, Nat.reduceSub, Nat.reduceMul, Nat.reduceLT, Nat.reduceLeDiff, Nat.reduceEqDiff, Nat.reduceMod, Nat.reduceDiv, Int.reduceNeg, Int.reduceLE, Int.reduceLT, Int.reduceToNat, Int.reduceEq, Int.reduceNe, ↓reduceIte]
      refine ih (m + 1, b) _ ⟨by omega, h2, h3⟩ (by simp only; omega) ?_
      set_option maxRecDepth 100000 in simp (maxSteps := 10000000) only [go_sem, Nat.reduceAdd, Nat.reduceSub, Nat.reduceMul, Nat.reduceLT, Nat.reduceLeDiff, Nat.reduceEqDiff, Nat.reduceMod, Nat.reduceDiv, Int.reduceNeg, Int.reduceLE, Int.reduceLT, Int.reduceToNat, Int.reduceEq, Int.reduceNe, ↓reduceIte,  wrap_succ (show m < 9223372036854775807 by omega)]
    · have h5 : ¬ m < posG l u := fun q => h (hpi.1 q)
      set_option maxRecDepth 100000 in simp (maxSteps := 10000000) only [go_sem, Nat.reduceAdd, Nat.reduceSub, Nat.reduceMul, Nat.reduceLT, Nat.reduceLeDiff, Nat.reduceEqDiff, Nat.reduceMod, Nat.reduceDiv, Int.reduceNeg, Int.reduceLE, Int.reduceLT, Int.reduceToNat, Int.reduceEq, Int.reduceNe, ↓reduceIte]
      refine ih (a, m) _ ⟨h1, by omega, by omega⟩ (by simp only; omega) ?_
      set_option maxRecDepth 100000 in simp (maxSteps := 10000000) only [go_sem, Nat.reduceAdd, Nat.reduceSub, Nat.reduceMul, Nat.reduceLT, Nat.reduceLeDiff, Nat.reduceEqDiff, Nat.reduceMod, Nat.reduceDiv, Int.reduceNeg, Int.reduceLE, Int.reduceLT, Int.reduceToNat, Int.reduceEq, Int.reduceNe, ↓reduceIte]
  have he : a = posG l u := by omega
  have he2 : b = posG l u := by omega
  subst hst
  rw [← he]
  refine Classical.byCases (fun h : a < l.length => ?_) fun h => ?_
  · have hi : (a : Int) < (l.length : Int) := by omega
    have hc := cmpG_good (nth l a) u
    have hq : (List.map encGrant l)[a]? = some (encGrant (nth l a)) := at_map h
    set_option maxRecDepth 100000 in simp (maxSteps := 10000000) only [go_sem, Nat.reduceAdd, Nat.reduceSub, Nat.reduceMul, Nat.reduceLT, Nat.reduceLeDiff, Nat.reduceEqDiff, Nat.reduceMod, Nat.reduceDiv, Int.reduceNeg, Int.reduceLE, Int.reduceLT, Int.reduceToNat, Int.reduceEq, Int.reduceNe, ↓reduceIte,  h, hi, decide_true, hq, Option.map_some]
    refine call_of (hc) ?_
    set_option maxRecDepth 100000 in simp (maxSteps := 10000000) only [go_sem, Nat.reduceAdd, Nat.reduceSub, Nat.reduceMul, Nat.reduceLT, Nat.reduceLeDiff, Nat.reduceEqDiff, Nat.reduceMod, Nat.reduceDiv, Int.reduceNeg, Int.reduceLE, Int.reduceLT, Int.reduceToNat, Int.reduceEq, Int.reduceNe, ↓reduceIte]
    simp
  · have hi : ¬ (a : Int) < (l.length : Int) := by omega
    set_option maxRecDepth 100000 in simp (maxSteps := 10000000) only [go_sem, Nat.reduceAdd, Nat.reduceSub, Nat.reduceMul, Nat.reduceLT, Nat.reduceLeDiff, Nat.reduceEqDiff, Nat.reduceMod, Nat.reduceDiv, Int.reduceNeg, Int.reduceLE, Int.reduceLT, Int.reduceToNat, Int.reduceEq, Int.reduceNe, ↓reduceIte,  h, hi, decide_false]
    simp

def hpG (l : List Grant) : AV := .obj 1 65 2 false true (l.map encGrant)
theorem IndexGM {f : Nat} {caps : List AV} {p : Grant → Bool} (hcap : caps.all AV.cellP = true) (hp : ∀ o, Ans Try.prog f (.agg (encGrant o) :: caps) (.bool (p o))) (l : List Grant) (h : l.length ≤ 1000000) :
    AnsM Try.prog 109 19 [.obj 1 65 2 false true (l.map encGrant)] [.ref 19 1, .fn f caps] (.int .i64 (findIx p l 0)) [(19, .obj 1 65 2 false true (l.map encGrant))] := by
  refine goodM_run [(2, [4, 5, 9, 10, 11, 12, 13, 14, 15, 16, 17, 18], [])] mixed Try.func109 rfl Try.ntmps109 (rs := [.tmp 4]) rfl (show wfCode 20 _ = true by decide +kernel) (by kernel_rfl) ?_
  rw [startM_eq 19 _ _ _ _ rfl rfl]
  set_option maxRecDepth 100000 in simp (maxSteps := 10000000) only [go_sem, Nat.reduceAdd, Nat.reduceSub, Nat.reduceMul, Nat.reduceLT, Nat.reduceLeDiff, Nat.reduceEqDiff, Nat.reduceMod, Nat.reduceDiv, Int.reduceNeg, Int.reduceLE, Int.reduceLT, Int.reduceToNat, Int.reduceEq, Int.reduceNe, ↓reduceIte]
  refine loop_by ([4, 5, 9, 10, 11, 12, 13, 14, 15, 16, 17, 18], []) (fun i : Nat => [(.s 8, .int .i64 (i : Int))]) (fun i => l.length - i) (fun i => i ≤ l.length ∧ findIx p l 0 = findIx p (l.drop i) i) 0 rfl ⟨Nat.zero_le _, rfl⟩ rfl ?_
  rintro c' st' hst i ⟨hi, hf⟩ ih
  set_option maxRecDepth 100000 in simp (maxSteps := 10000000) only [go_sem, Nat.reduceAdd, Nat.reduceSub, Nat.reduceMul, Nat.reduceLT, Nat.reduceLeDiff, Nat.reduceEqDiff, Nat.reduceMod, Nat.reduceDiv, Int.reduceNeg, Int.reduceLE, Int.reduceLT, Int.reduceToNat, Int.reduceEq, Int.reduceNe, ↓reduceIte]
  refine ifI (fun hlt => ?_) fun hlt => ?_
  · have hq : (List.map encGrant l)[i]? = some (encGrant (nth l i)) := at_map (by omega)
    set_option maxRecDepth 100000 in simp (maxSteps := 10000000) only [go_sem, Nat.reduceAdd, Nat.reduceSub, Nat.reduceMul, Nat.reduceLT, Nat.reduceLeDiff, Nat.reduceEqDiff, Nat.reduceMod, Nat.reduceDiv, Int.reduceNeg, Int.reduceLE, Int.reduceLT, Int.reduceToNat, Int.reduceEq, Int.reduceNe, ↓reduceIte,  hlt, hq, Option.map_some]
    refine call_of (hp (nth l i)) ?_
    set_option maxRecDepth 100000 in simp (maxSteps := 10000000) only [go_sem, Nat.reduceAdd, Nat.reduceSub, Nat.reduceMul, Nat.reduceLT, Nat.reduceLeDiff, Nat.reduceEqDiff, Nat.reduceMod, Nat.reduceDiv, Int.reduceNeg, Int.reduceLE, Int.reduceLT, Int.reduceToNat, Int.reduceEq, Int.reduceNe, ↓reduceIte]
    refine ifI (fun hn => ?_) fun hn => ?_
    · set_option maxRecDepth 100000 in simp (maxSteps := 10000000) only [go_sem, Nat.reduceAdd, Nat.reduceSub, Nat.reduceMul, Nat.reduceLT, Nat.reduceLeDiff, Nat.reduceEqDiff, Nat.reduceMod, Nat.reduceDiv, Int.reduceNeg, Int.reduceLE, Int.reduceLT, Int.reduceToNat, Int.reduceEq, Int.reduceNe, ↓reduceIte]
      rw [hf, drop_nth hlt, findIx, if_pos hn]
      simp
    · set_option maxRecDepth 100000 in simp (maxSteps := 10000000) only [go_sem, Nat.reduceAdd, Nat.reduceSub, Nat.reduceMul, Nat.reduceLT, Nat.reduceLeDiff, Nat.reduceEqDiff, Nat.reduceMod, Nat.reduceDiv, Int.reduceNeg, Int.reduceLE, Int.reduceLT, Int.reduceToNat, Int.reduceEq, Int.reduceNe, ↓reduceIte]
      refine ih (i + 1) _ ⟨by omega, ?_⟩ (by omega) ?_
      · rw [hf, drop_nth hlt, findIx, if_neg hn]
      set_option maxRecDepth 100000 in simp (maxSteps := 10000000) only [go_sem, Nat.reduceAdd, Nat.reduceSub, Nat.reduceMul, Nat.reduceLT, Nat.reduceLeDiff, Nat.reduceEqDiff, Nat.reduceMod, Nat.reduceDiv, Int.reduceNeg, Int.reduceLE, Int.reduceLT, Int.reduceToNat, Int.reduceEq, Int.reduceNe, ↓reduceIte,  wrap_succ (show i < 9223372036854775807 by omega)]
  · subst hst
    set_option maxRecDepth 100000 in simp (maxSteps := 10000000) only [go_sem, Nat.reduceAdd, Nat.reduceSub, Nat.reduceMul, Nat.reduceLT, Nat.reduceLeDiff, Nat.reduceEqDiff, Nat.reduceMod, Nat.reduceDiv, Int.reduceNeg, Int.reduceLE, Int.reduceLT, Int.reduceToNat, Int.reduceEq, Int.reduceNe, ↓reduceIte]
    rw [hf, List.drop_eq_nil_of_le (by omega)]
    simp [findIx]
end Go.Proofs.Ytdmcmfdmnlckdaa.C10
/- Chapter 10: the whole with more private authority of a user. -/
namespace Go.Proofs.Ytdmcmfdmnlckdaa.C10
open Go Go.Proofs Go.Proofs.Ytdmcmfdmnlckdaa.Ab
set_option linter.unusedSimpArgs false
set_option linter.unusedVariables false
attribute [local congr] ite_ctx

theorem isU_good (n : ByteArray) (g : Grant) : Ans Try.prog 110 [.agg (encGrant g), .ptr [.str n]] (.bool (decide (g.user = n))) := by
  refine good_run [] mixed Try.func110 rfl Try.ntmps110 (rs := [.tmp 3]) rfl (by decide +kernel) (by kernel_rfl) rfl ?_
  rw [startE_eq 8 _ _ _ rfl rfl]
  set_option maxRecDepth 100000 in simp (maxSteps := 10000000) only [go_sem, Nat.reduceAdd, Nat.reduceSub, Nat.reduceMul, Nat.reduceLT, Nat.reduceLeDiff, Nat.reduceEqDiff, Nat.reduceMod, Nat.reduceDiv, Int.reduceNeg, Int.reduceLE, Int.reduceLT, Int.reduceToNat, Int.reduceEq, Int.reduceNe, ↓reduceIte]
theorem grantM (l : List Grant) (n : ByteArray) (h : l.length ≤ 1000000) : AnsM Try.prog 88 8 [.obj 1 65 2 false true (l.map encGrant)] [.ref 8 1, .str n] (.int .i64 (grantIx l n)) [(8, .obj 1 65 2 false true (l.map encGrant))] := by
  refine goodM_run [] mixed Try.func88 rfl Try.ntmps88 (rs := [.tmp 4]) rfl (show wfCode 9 _ = true by decide +kernel) (by kernel_rfl) ?_
  rw [startM_eq 8 _ _ _ _ rfl rfl]
  set_option maxRecDepth 100000 in simp (maxSteps := 10000000) only [go_sem, Nat.reduceAdd, Nat.reduceSub, Nat.reduceMul, Nat.reduceLT, Nat.reduceLeDiff, Nat.reduceEqDiff, Nat.reduceMod, Nat.reduceDiv, Int.reduceNeg, Int.reduceLE, Int.reduceLT, Int.reduceToNat, Int.reduceEq, Int.reduceNe, ↓reduceIte]
  refine callM_of [8] [8] (IndexGM (caps := [.ptr [.str n]]) rfl (isU_good n) l h) ⟨by simp [renA, ren1, invM, posOf, verOf, AV.cellP, Env.go], rfl, rfl, by simp, by simp, by simp, by simp, rfl, rfl, rfl, onodup_of (l := [19]) rfl (by decide)⟩ ?_
  set_option maxRecDepth 100000 in simp (maxSteps := 10000000) only [go_sem, Nat.reduceAdd, Nat.reduceSub, Nat.reduceMul, Nat.reduceLT, Nat.reduceLeDiff, Nat.reduceEqDiff, Nat.reduceMod, Nat.reduceDiv, Int.reduceNeg, Int.reduceLE, Int.reduceLT, Int.reduceToNat, Int.reduceEq, Int.reduceNe, ↓reduceIte]
  simp [grantIx]

structure GReq where
  user : ByteArray
  object : Int
  auth : Int
deriving Inhabited
def encGReq (g : GReq) : List AV := [.str g.user, .int .i64 g.object, .int .i64 g.auth]
attribute [go_sem] encGReq
/-- Grants with more authority of a user. -/
def addG (l : List Grant) (u : ByteArray) (a : Int) : List Grant :=
  if 0 ≤ grantIx l u then l.set (grantIx l u).toNat ⟨(nth l (grantIx l u).toNat).user, Go.bits .or .i64 (nth l (grantIx l u).toNat).auth a⟩ else insG l (posG l u) ⟨u, a⟩
def addO (o : Secured) (u : ByteArray) (a : Int) : Secured := { o with grants := addG o.grants u a }
def addS (s : Sec) (k : Nat) (u : ByteArray) (a : Int) : Sec := { s with objects := s.objects.set k (addO (nth s.objects k) u a) }

set_option maxHeartbeats 8000000 in
theorem granted_good (s : Sec) (g : GReq) (hs : Fit s) (i1 : 0 ≤ g.object) (i2 : g.object < (s.objects.length : Int)) (i3 : g.object.toNat < s.objects.length) (hl : (nth s.objects g.object.toNat).grants.length ≤ 1000) (hso : SortedG (nth s.objects g.object.toNat).grants) :
    Ans Try.prog 86 [.agg (encSec s), .agg (encGReq g)] (.agg (encSec (addS s g.object.toNat g.user g.auth))) := by
  obtain ⟨u, i, a⟩ := g
  show Ans Try.prog 86 [.agg (encSec s), .agg [.str u, .int .i64 i, .int .i64 a]] (.agg (encSec (addS s i.toNat u a)))
  simp only at i1 i2 i3 hl hso
  have hO := hs.objects
  have hg := hs.ogrants _ (nth_mem i3)
  have hq : (List.map encSecured s.objects)[i.toNat]? = some (encSecured (nth s.objects i.toNat)) := at_map i3
  have hset : ∀ r, ((List.map encSecured s.objects).set i.toNat r)[i.toNat]? = some r := fun r => by rw [List.getElem?_set_self (by simpa using i3)]
  have hren : ∀ m, List.map (fun x => List.map (ren1 m) x) (List.map encSecured s.objects) = List.map encSecured s.objects := fun m => by
    rw [List.map_map]; exact List.map_congr_left fun o _ => rfl
  have hgm := grantM (nth s.objects i.toNat).grants u hg
  have hP := rowsP_secured (addS s i.toNat u a).objects
  have hA : (addS s i.toNat u a).objects = s.objects.set i.toNat (addO (nth s.objects i.toNat) u a) := rfl
  have hge := findIx_ge (fun p : Grant => decide (p.user = u)) (nth s.objects i.toNat).grants 0
  have hge : grantIx (nth s.objects i.toNat).grants u = -1 ∨ (0 ≤ grantIx (nth s.objects i.toNat).grants u ∧ grantIx (nth s.objects i.toNat).grants u < ((nth s.objects i.toNat).grants.length : Int)) := by
    unfold grantIx; omega
  refine Classical.byCases (fun h : 0 ≤ grantIx (nth s.objects i.toNat).grants u => ?_) fun h => ?_
  · obtain ⟨k, hk⟩ : ∃ k : Nat, grantIx (nth s.objects i.toNat).grants u = (k : Int) := ⟨_, (Int.toNat_of_nonneg h).symm⟩
    have hkl : k < (nth s.objects i.toNat).grants.length := by omega
    have hki : (k : Int) < ((nth s.objects i.toNat).grants.length : Int) := by omega
    have hgk : (List.map encGrant (nth s.objects i.toNat).grants)[k]? = some (encGrant (nth (nth s.objects i.toNat).grants k)) := at_map hkl
    rw [hk] at hgm
    have hE : (List.map encSecured s.objects).set i.toNat [.str (nth s.objects i.toNat).name.lib, .str (nth s.objects i.toNat).name.name, .int .i64 (nth s.objects i.toNat).name.type, .str (nth s.objects i.toNat).owner, .sl ((List.map encGrant (nth s.objects i.toNat).grants).set k [.str (nth (nth s.objects i.toNat).grants k).user, .int .i64 (Go.bits .or .i64 (nth (nth s.objects i.toNat).grants k).auth a)]), .str (nth s.objects i.toNat).list, .int .i64 (nth s.objects i.toNat).pub, .bool (nth s.objects i.toNat).byList] = List.map encSecured (addS s i.toNat u a).objects := by
      rw [hA, List.map_set, addO, addG, if_pos h, hk, Int.toNat_natCast]
      simp only [encSecured, List.map_set, encGrant]
    refine good_run [(3000006, [], [100000000004016000]), (3000009, [], [100000000004016000])] mixed Try.func86 rfl Try.ntmps86 (rs := [.cell 4 26]) rfl (by decide +kernel) (by kernel_rfl) rfl ?_
    rw [startE_eq 67 _ _ _ rfl rfl]
    set_option maxRecDepth 100000 in simp (maxSteps := 10000000) only [go_sem, Nat.reduceAdd, Nat.reduceSub, Nat.reduceMul, Nat.reduceLT, Nat.reduceLeDiff, Nat.reduceEqDiff, Nat.reduceMod, Nat.reduceDiv, Int.reduceNeg, Int.reduceLE, Int.reduceLT, Int.reduceToNat, Int.reduceEq, Int.reduceNe, ↓reduceIte]
    refine callM_of [] [0, 1] (own81M s i hO hg i1 i2 i3) ⟨rfl, rfl, rfl, by simp, by simp, by simp, by simp, rfl, rfl, rfl, onodup_of (l := [0, 18]) rfl (by decide)⟩ ?_
    set_option maxRecDepth 100000 in simp (maxSteps := 10000000) only [go_sem, Nat.reduceAdd, Nat.reduceSub, Nat.reduceMul, Nat.reduceLT, Nat.reduceLeDiff, Nat.reduceEqDiff, Nat.reduceMod, Nat.reduceDiv, Int.reduceNeg, Int.reduceLE, Int.reduceLT, Int.reduceToNat, Int.reduceEq, Int.reduceNe, ↓reduceIte]
    set_option maxRecDepth 100000 in simp (maxSteps := 10000000) only [go_sem, Nat.reduceAdd, Nat.reduceSub, Nat.reduceMul, Nat.reduceLT, Nat.reduceLeDiff, Nat.reduceEqDiff, Nat.reduceMod, Nat.reduceDiv, Int.reduceNeg, Int.reduceLE, Int.reduceLT, Int.reduceToNat, Int.reduceEq, Int.reduceNe, ↓reduceIte,  i1, i2, i3, hset, hren, hq, List.map_set, List.length_set, List.length_map, Option.map_some]
    refine callMD_of [1] [1] (hgm) ⟨by simp [renA, ren1, invM, posOf, verOf, AV.cellP, Env.go], rfl, rfl, by simp, by simp [ment, ment1], by simp, by simp, rfl, rfl, rfl, onodup_of (l := [8]) rfl (by decide)⟩ ?_
    set_option maxRecDepth 100000 in simp (maxSteps := 10000000) only [go_sem, Nat.reduceAdd, Nat.reduceSub, Nat.reduceMul, Nat.reduceLT, Nat.reduceLeDiff, Nat.reduceEqDiff, Nat.reduceMod, Nat.reduceDiv, Int.reduceNeg, Int.reduceLE, Int.reduceLT, Int.reduceToNat, Int.reduceEq, Int.reduceNe, ↓reduceIte,  i1, i2, i3, hset, hq, List.length_set, List.length_map, Option.map_some, List.set_set]
    refine ⟨by decide +kernel, ?_⟩
    set_option maxRecDepth 100000 in simp (maxSteps := 10000000) only [go_sem, Nat.reduceAdd, Nat.reduceSub, Nat.reduceMul, Nat.reduceLT, Nat.reduceLeDiff, Nat.reduceEqDiff, Nat.reduceMod, Nat.reduceDiv, Int.reduceNeg, Int.reduceLE, Int.reduceLT, Int.reduceToNat, Int.reduceEq, Int.reduceNe, ↓reduceIte,  Int.natCast_nonneg, decide_true, hkl, hki, hgk, i1, i2, i3, hset, hq, List.length_set, List.length_map, Option.map_some, List.set_set, hE, hP]
    exact ⟨by decide +kernel, rfl, rfl⟩
  · have hF : grantIx (nth s.objects i.toNat).grants u = -1 := by omega
    rw [hF] at hgm
    obtain ⟨bb, hbs⟩ := BSearchM (nth s.objects i.toNat).grants u hg hso
    have hin := InsertGM (nth s.objects i.toNat).grants (posG (nth s.objects i.toNat).grants u) ⟨u, a⟩ (posG_le _ _) hl
    have hE : (List.map encSecured s.objects).set i.toNat [.str (nth s.objects i.toNat).name.lib, .str (nth s.objects i.toNat).name.name, .int .i64 (nth s.objects i.toNat).name.type, .str (nth s.objects i.toNat).owner, .sl (List.map encGrant (insG (nth s.objects i.toNat).grants (posG (nth s.objects i.toNat).grants u) ⟨u, a⟩)), .str (nth s.objects i.toNat).list, .int .i64 (nth s.objects i.toNat).pub, .bool (nth s.objects i.toNat).byList] = List.map encSecured (addS s i.toNat u a).objects := by
      rw [hA, List.map_set, addO, addG, if_neg h]
      simp only [encSecured]
    refine good_run [(3000006, [], [100000000004016000]), (3000009, [], [100000000004016000])] mixed Try.func86 rfl Try.ntmps86 (rs := [.cell 4 26]) rfl (by decide +kernel) (by kernel_rfl) rfl ?_
    rw [startE_eq 67 _ _ _ rfl rfl]
    set_option maxRecDepth 100000 in simp (maxSteps := 10000000) only [go_sem, Nat.reduceAdd, Nat.reduceSub, Nat.reduceMul, Nat.reduceLT, Nat.reduceLeDiff, Nat.reduceEqDiff, Nat.reduceMod, Nat.reduceDiv, Int.reduceNeg, Int.reduceLE, Int.reduceLT, Int.reduceToNat, Int.reduceEq, Int.reduceNe, ↓reduceIte]
    refine callM_of [] [0, 1] (own81M s i hO hg i1 i2 i3) ⟨rfl, rfl, rfl, by simp, by simp, by simp, by simp, rfl, rfl, rfl, onodup_of (l := [0, 18]) rfl (by decide)⟩ ?_
    set_option maxRecDepth 100000 in simp (maxSteps := 10000000) only [go_sem, Nat.reduceAdd, Nat.reduceSub, Nat.reduceMul, Nat.reduceLT, Nat.reduceLeDiff, Nat.reduceEqDiff, Nat.reduceMod, Nat.reduceDiv, Int.reduceNeg, Int.reduceLE, Int.reduceLT, Int.reduceToNat, Int.reduceEq, Int.reduceNe, ↓reduceIte]
    set_option maxRecDepth 100000 in simp (maxSteps := 10000000) only [go_sem, Nat.reduceAdd, Nat.reduceSub, Nat.reduceMul, Nat.reduceLT, Nat.reduceLeDiff, Nat.reduceEqDiff, Nat.reduceMod, Nat.reduceDiv, Int.reduceNeg, Int.reduceLE, Int.reduceLT, Int.reduceToNat, Int.reduceEq, Int.reduceNe, ↓reduceIte,  i1, i2, i3, hset, hren, hq, List.map_set, List.length_set, List.length_map, Option.map_some]
    refine callMD_of [1] [1] (hgm) ⟨by simp [renA, ren1, invM, posOf, verOf, AV.cellP, Env.go], rfl, rfl, by simp, by simp [ment, ment1], by simp, by simp, rfl, rfl, rfl, onodup_of (l := [8]) rfl (by decide)⟩ ?_
    set_option maxRecDepth 100000 in simp (maxSteps := 10000000) only [go_sem, Nat.reduceAdd, Nat.reduceSub, Nat.reduceMul, Nat.reduceLT, Nat.reduceLeDiff, Nat.reduceEqDiff, Nat.reduceMod, Nat.reduceDiv, Int.reduceNeg, Int.reduceLE, Int.reduceLT, Int.reduceToNat, Int.reduceEq, Int.reduceNe, ↓reduceIte,  i1, i2, i3, hset, hq, List.length_set, List.length_map, Option.map_some, List.set_set]
    refine ⟨by decide +kernel, ?_⟩
    refine callMD_of [1] [1] (hbs) ⟨by simp [renA, ren1, invM, posOf, verOf, AV.cellP, Env.go], rfl, rfl, by simp, by simp [ment, ment1], by simp, by simp, rfl, rfl, rfl, onodup_of (l := [49]) rfl (by decide)⟩ ?_
    set_option maxRecDepth 100000 in simp (maxSteps := 10000000) only [go_sem, Nat.reduceAdd, Nat.reduceSub, Nat.reduceMul, Nat.reduceLT, Nat.reduceLeDiff, Nat.reduceEqDiff, Nat.reduceMod, Nat.reduceDiv, Int.reduceNeg, Int.reduceLE, Int.reduceLT, Int.reduceToNat, Int.reduceEq, Int.reduceNe, ↓reduceIte,  i1, i2, i3, hset, hq, List.length_set, List.length_map, Option.map_some, List.set_set]
    refine ⟨by decide +kernel, ?_⟩
    refine callMD_of [1, 62] [1] (hin) ⟨by simp [renA, ren1, invM, posOf, verOf, AV.cellP, Env.go], rfl, rfl, by simp, by simp [ment, ment1], by simp, by simp, rfl, rfl, rfl, onodup_of (l := [3]) rfl (by decide)⟩ ?_
    set_option maxRecDepth 100000 in simp (maxSteps := 10000000) only [go_sem, Nat.reduceAdd, Nat.reduceSub, Nat.reduceMul, Nat.reduceLT, Nat.reduceLeDiff, Nat.reduceEqDiff, Nat.reduceMod, Nat.reduceDiv, Int.reduceNeg, Int.reduceLE, Int.reduceLT, Int.reduceToNat, Int.reduceEq, Int.reduceNe, ↓reduceIte,  i1, i2, i3, hset, hq, List.length_set, List.length_map, Option.map_some, List.set_set, hE, hP]
    exact ⟨by decide +kernel, rfl, rfl⟩
end Go.Proofs.Ytdmcmfdmnlckdaa.C10
