/- Chapter 6: strings.Repeat and bits.Mul, by the shelf's contracts. -/
import Derived.Test.YtdfdagfgkijpcaaN0
import Derived.Shelf.Strings.Repeat
namespace Go.Proofs.Ytdfdagfgkijpcaa.C06
open Go Go.Proofs Go.Proofs.Ytdfdagfgkijpcaa.Ab Go.RowKit
set_option linter.unusedSimpArgs false
set_option linter.unusedVariables false

def repRen : Go.Shelf.Ren where
  f := fun x => match x with
    | 99 => 67
    | 105 => 62
    | 165 => 68
    | 166 => 69
    | 169 => 71
    | 170 => 70
    | 206 => 72
    | 212 => 61
    | 240 => 73
    | 241 => 74
    | 263 => 65
    | 264 => 66
    | 276 => 75
    | 277 => 76
    | n => n
  t := fun x => match x with
    | 0 => 0
    | 3 => 3
    | 4 => 4
    | 5 => 5
    | 9 => 9
    | 20 => 20
    | 37 => 88
    | 46 => 95
    | 51 => 101
    | 53 => 104
    | 70 => 108
    | 72 => 110
    | 75 => 113
    | 76 => 114
    | 80 => 84
    | 109 => 96
    | 127 => 117
    | 146 => 102
    | 148 => 105
    | 164 => 118
    | n => n
  g := fun n => n
theorem repL : Lays.n105 Try.prog repRen where
  mixed := mixed
  f99 := Try.func67.trans (congrArg some (by kernel_rfl))
  f105 := Try.func62.trans (congrArg some (by kernel_rfl))
  f165 := Try.func68.trans (congrArg some (by kernel_rfl))
  f166 := Try.func69.trans (congrArg some (by kernel_rfl))
  f169 := Try.func71.trans (congrArg some (by kernel_rfl))
  f170 := Try.func70.trans (congrArg some (by kernel_rfl))
  f206 := Try.func72.trans (congrArg some (by kernel_rfl))
  f212 := Try.func61.trans (congrArg some (by kernel_rfl))
  f240 := Try.func73.trans (congrArg some (by kernel_rfl))
  f241 := Try.func74.trans (congrArg some (by kernel_rfl))
  f263 := Try.func65.trans (congrArg some (by kernel_rfl))
  f264 := Try.func66.trans (congrArg some (by kernel_rfl))
  f276 := Try.func75.trans (congrArg some (by kernel_rfl))
  f277 := Try.func76.trans (congrArg some (by kernel_rfl))
  t0 := Try.underlying0
  a0 := Try.isAgg0
  z0 := Try.sizeOf0
  v0 := Try.zeroValue0
  t3 := Try.underlying3
  a3 := Try.isAgg3
  z3 := Try.sizeOf3
  v3 := Try.zeroValue3
  t4 := Try.underlying4
  a4 := Try.isAgg4
  z4 := Try.sizeOf4
  v4 := Try.zeroValue4
  t5 := Try.underlying5
  a5 := Try.isAgg5
  z5 := Try.sizeOf5
  v5 := Try.zeroValue5
  t9 := Try.underlying9
  a9 := Try.isAgg9
  z9 := Try.sizeOf9
  v9 := Try.zeroValue9
  t20 := Try.underlying20
  a20 := Try.isAgg20
  z20 := Try.sizeOf20
  v20 := Try.zeroValue20
  t37 := Try.underlying88
  a37 := Try.isAgg88
  z37 := Try.sizeOf88
  v37 := Try.zeroValue88
  t46 := Try.underlying95
  a46 := Try.isAgg95
  z46 := Try.sizeOf95
  v46 := Try.zeroValue95
  t51 := Try.underlying101
  a51 := Try.isAgg101
  z51 := Try.sizeOf101
  v51 := Try.zeroValue101
  t53 := Try.underlying104
  a53 := Try.isAgg104
  z53 := Try.sizeOf104
  v53 := Try.zeroValue104
  t70 := Try.underlying108
  a70 := Try.isAgg108
  z70 := Try.sizeOf108
  v70 := Try.zeroValue108
  t72 := Try.underlying110
  a72 := Try.isAgg110
  z72 := Try.sizeOf110
  v72 := Try.zeroValue110
  t75 := Try.underlying113
  a75 := Try.isAgg113
  z75 := Try.sizeOf113
  v75 := Try.zeroValue113
  t76 := Try.underlying114
  a76 := Try.isAgg114
  z76 := Try.sizeOf114
  v76 := Try.zeroValue114
  t109 := Try.underlying96
  a109 := Try.isAgg96
  z109 := Try.sizeOf96
  v109 := Try.zeroValue96
  t127 := Try.underlying117
  a127 := Try.isAgg117
  z127 := Try.sizeOf117
  v127 := Try.zeroValue117
  t146 := Try.underlying102
  a146 := Try.isAgg102
  z146 := Try.sizeOf102
  v146 := Try.zeroValue102
  t148 := Try.underlying105
  a148 := Try.isAgg105
  z148 := Try.sizeOf105
  v148 := Try.zeroValue105
  t164 := Try.underlying118
  a164 := Try.isAgg118
  z164 := Try.sizeOf118
  v164 := Try.zeroValue118
theorem repX : Builder.Extra Try.prog repRen where
  sizeBuilder := by kernel_rfl
  liesBuilder := by kernel_rfl
  t5 := repL.t5
  a5 := repL.a5
  z5 := repL.z5
  v5 := repL.v5
  infoByte := by kernel_rfl
  cellsByte := by kernel_rfl
  sizeByte := by kernel_rfl
  neB5 := by decide

/-- A contract of the library that leaves all as it was, told as one of ours. -/
theorem ans_of {f : FuncId} {args : List AV} {r : AV} (hgo : goes Try.prog f = true) (hp : r.pureR = true)
    (h : ∀ (w : World) (Pr : Nat → Nat → Prop) (vs : Array Value), vs.size = args.length → (∀ (i : Nat) (a : AV) (v : Value), args[i]? = some a → vs[i]? = some v → VRel ⟨Pr, fun _ => none, fun _ => 0⟩ w a v) →
      ∃ v, (∀ G w', VRel G w' r v) ∧ Calls Try.prog f vs w fun e w' => e = .returned v ∧ Below w.heap.size w w') : Ans Try.prog f args r := by
  refine ⟨hgo, hp, fun w Pr vs hs hr hlt => ?_⟩
  obtain ⟨v, hv, hc⟩ := h w Pr vs hs hr
  refine hc.mono fun e w' ⟨he, hb⟩ => ⟨v, Pr, he, hv _ _, fun _ _ h => h, fun _ _ _ h => h, fun b o h => Nat.lt_of_lt_of_le (hlt b o h) hb.size, ⟨hb, fun q => q.elim⟩⟩

theorem Repeat62_good (s : ByteArray) (c : Nat) (hc : c ≤ 1000000) (hs : s.size ≤ 1000) : Ans Try.prog 62 [.str s, .int .i64 (c : Int)] (.str ⟨(Lib.repeatL s.data.toList c).toArray⟩) := by
  refine ans_of (by kernel_rfl) rfl fun w Pr vs hsz hr => ⟨.string ⟨(Lib.repeatL s.data.toList c).toArray⟩, fun G w' => .str _, ?_⟩
  obtain ⟨x, y, rfl⟩ : ∃ x y, vs = #[x, y] := by
    match vs, hsz with
    | ⟨[x, y]⟩, _ => exact ⟨x, y, rfl⟩
  have h1 := hr 0 _ x rfl rfl
  have h2 := hr 1 _ y rfl rfl
  cases h1
  cases h2
  exact Any.strings_Repeat repL repX s c w (by omega) (Nat.le_trans (Nat.mul_le_mul hs hc) (by decide))
theorem Mul61_good (x y : Nat) (hx : x ≤ 1000000) (hy : y ≤ 1000000) : Ans Try.prog 61 [.int .u64 (x : Int), .int .u64 (y : Int)] (.tup [.int .u64 0, .int .u64 ((x * y : Nat) : Int)]) := by
  have hxy : x * y < 18446744073709551616 := Nat.lt_of_le_of_lt (Nat.mul_le_mul hx hy) (by decide)
  refine ans_of (by kernel_rfl) rfl fun w Pr vs hsz hr => ⟨.tuple #[.int .u64 0, .int .u64 ((x * y : Nat) : Int)], fun G w' => .tup _ _ rfl fun i c v h1 h2 => ?_, ?_⟩
  · match i, h1, h2 with
    | 0, h1, h2 => simp at h1 h2; subst h1 h2; exact .int _ _
    | 1, h1, h2 => simp at h1 h2; subst h1 h2; exact .int _ _
  obtain ⟨a, b, rfl⟩ : ∃ x y, vs = #[x, y] := by
    match vs, hsz with
    | ⟨[x, y]⟩, _ => exact ⟨x, y, rfl⟩
  have h1 := hr 0 _ a rfl rfl
  have h2 := hr 1 _ b rfl rfl
  cases h1
  cases h2
  have hM := Any.bits_Mul { repL with } x y (by omega) (by omega) w
  rw [Nat.div_eq_of_lt hxy, Nat.mod_eq_of_lt hxy] at hM
  exact hM.mono fun e w' ⟨he, hw⟩ => ⟨he, hw ▸ Below.refl _ _⟩

theorem blank_good : Ans Try.prog 51 [] (.str zeroB) := by
  refine good_run [] mixed Try.func51 rfl Try.ntmps51 (rs := [.tmp 0]) rfl (by decide +kernel) (by kernel_rfl) rfl ?_
  rw [startE_eq 2 _ _ _ rfl rfl]
  set_option maxRecDepth 100000 in simp (maxSteps := 10000000) only [go_sem, Nat.reduceAdd, Nat.reduceSub, Nat.reduceMul, Nat.reduceLT, Nat.reduceLeDiff, Nat.reduceEqDiff, Nat.reduceMod, Nat.reduceDiv, Int.reduceNeg, Int.reduceLE, Int.reduceLT, Int.reduceToNat, Int.reduceEq, Int.reduceNe, ↓reduceIte]
  refine call_of (Repeat62_good ⟨#[0]⟩ 16 (by decide) (by decide)) ?_
  set_option maxRecDepth 100000 in simp (maxSteps := 10000000) only [go_sem, Nat.reduceAdd, Nat.reduceSub, Nat.reduceMul, Nat.reduceLT, Nat.reduceLeDiff, Nat.reduceEqDiff, Nat.reduceMod, Nat.reduceDiv, Int.reduceNeg, Int.reduceLE, Int.reduceLT, Int.reduceToNat, Int.reduceEq, Int.reduceNe, ↓reduceIte]
  rfl
end Go.Proofs.Ytdfdagfgkijpcaa.C06
