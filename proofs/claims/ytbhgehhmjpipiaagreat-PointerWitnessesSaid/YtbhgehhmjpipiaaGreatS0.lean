/- Chapter 12: strings.Repeat, by the shelf's contract. -/
import Derived.Test.YtbhgehhmjpipiaaGreatE3
import Derived.Shelf.Strings.Repeat
namespace Go.Proofs.YtbhgehhmjpipiaaGreat.C12
open Go Go.Proofs Go.Proofs.YtbhgehhmjpipiaaGreat.Ab Go.Proofs.YtbhgehhmjpipiaaGreat.C10 Go.RowKit
set_option linter.unusedSimpArgs false
set_option linter.unusedVariables false
def repRen : Go.Shelf.Ren where
  f := fun x => match x with
    | 99 => 198
    | 105 => 177
    | 165 => 199
    | 166 => 200
    | 169 => 202
    | 170 => 201
    | 206 => 213
    | 212 => 197
    | 240 => 214
    | 241 => 215
    | 263 => 211
    | 264 => 212
    | 276 => 219
    | 277 => 220
    | n => n
  t := fun x => match x with
    | 0 => 0
    | 3 => 3
    | 4 => 4
    | 5 => 5
    | 9 => 9
    | 20 => 20
    | 37 => 207
    | 46 => 216
    | 51 => 238
    | 53 => 240
    | 70 => 247
    | 72 => 249
    | 75 => 252
    | 76 => 253
    | 80 => 256
    | 109 => 244
    | 127 => 270
    | 146 => 266
    | 148 => 268
    | 164 => 275
    | n => n
  g := fun n => n
theorem repL : Lays.n105 Tryz.prog repRen where
  mixed := mixed
  f99 := Tryz.func198.trans (congrArg some (by kernel_rfl))
  f105 := Tryz.func177.trans (congrArg some (by kernel_rfl))
  f165 := Tryz.func199.trans (congrArg some (by kernel_rfl))
  f166 := Tryz.func200.trans (congrArg some (by kernel_rfl))
  f169 := Tryz.func202.trans (congrArg some (by kernel_rfl))
  f170 := Tryz.func201.trans (congrArg some (by kernel_rfl))
  f206 := Tryz.func213.trans (congrArg some (by kernel_rfl))
  f212 := Tryz.func197.trans (congrArg some (by kernel_rfl))
  f240 := Tryz.func214.trans (congrArg some (by kernel_rfl))
  f241 := Tryz.func215.trans (congrArg some (by kernel_rfl))
  f263 := Tryz.func211.trans (congrArg some (by kernel_rfl))
  f264 := Tryz.func212.trans (congrArg some (by kernel_rfl))
  f276 := Tryz.func219.trans (congrArg some (by kernel_rfl))
  f277 := Tryz.func220.trans (congrArg some (by kernel_rfl))
  t0 := Tryz.underlying0
  a0 := Tryz.isAgg0
  z0 := Tryz.sizeOf0
  v0 := Tryz.zeroValue0
  t3 := Tryz.underlying3
  a3 := Tryz.isAgg3
  z3 := Tryz.sizeOf3
  v3 := Tryz.zeroValue3
  t4 := Tryz.underlying4
  a4 := Tryz.isAgg4
  z4 := Tryz.sizeOf4
  v4 := Tryz.zeroValue4
  t5 := Tryz.underlying5
  a5 := Tryz.isAgg5
  z5 := Tryz.sizeOf5
  v5 := Tryz.zeroValue5
  t9 := Tryz.underlying9
  a9 := Tryz.isAgg9
  z9 := Tryz.sizeOf9
  v9 := Tryz.zeroValue9
  t20 := Tryz.underlying20
  a20 := Tryz.isAgg20
  z20 := Tryz.sizeOf20
  v20 := Tryz.zeroValue20
  t37 := Tryz.underlying207
  a37 := Tryz.isAgg207
  z37 := Tryz.sizeOf207
  v37 := Tryz.zeroValue207
  t46 := Tryz.underlying216
  a46 := Tryz.isAgg216
  z46 := Tryz.sizeOf216
  v46 := Tryz.zeroValue216
  t51 := Tryz.underlying238
  a51 := Tryz.isAgg238
  z51 := Tryz.sizeOf238
  v51 := Tryz.zeroValue238
  t53 := Tryz.underlying240
  a53 := Tryz.isAgg240
  z53 := Tryz.sizeOf240
  v53 := Tryz.zeroValue240
  t70 := Tryz.underlying247
  a70 := Tryz.isAgg247
  z70 := Tryz.sizeOf247
  v70 := Tryz.zeroValue247
  t72 := Tryz.underlying249
  a72 := Tryz.isAgg249
  z72 := Tryz.sizeOf249
  v72 := Tryz.zeroValue249
  t75 := Tryz.underlying252
  a75 := Tryz.isAgg252
  z75 := Tryz.sizeOf252
  v75 := Tryz.zeroValue252
  t76 := Tryz.underlying253
  a76 := Tryz.isAgg253
  z76 := Tryz.sizeOf253
  v76 := Tryz.zeroValue253
  t109 := Tryz.underlying244
  a109 := Tryz.isAgg244
  z109 := Tryz.sizeOf244
  v109 := Tryz.zeroValue244
  t127 := Tryz.underlying270
  a127 := Tryz.isAgg270
  z127 := Tryz.sizeOf270
  v127 := Tryz.zeroValue270
  t146 := Tryz.underlying266
  a146 := Tryz.isAgg266
  z146 := Tryz.sizeOf266
  v146 := Tryz.zeroValue266
  t148 := Tryz.underlying268
  a148 := Tryz.isAgg268
  z148 := Tryz.sizeOf268
  v148 := Tryz.zeroValue268
  t164 := Tryz.underlying275
  a164 := Tryz.isAgg275
  z164 := Tryz.sizeOf275
  v164 := Tryz.zeroValue275
theorem repX : Builder.Extra Tryz.prog repRen where
  sizeBuilder := by kernel_rfl
  liesBuilder := by kernel_rfl
  t5 := repL.t5
  a5 := repL.a5
  z5 := repL.z5
  v5 := repL.v5
  infoByte := by kernel_rfl
  cellsByte := by kernel_rfl
  sizeByte := by kernel_rfl
  neB5 := by decide
/-- A contract of the library that leaves all as it was, told as one of ours. -/
theorem ans_of {f : FuncId} {args : List AV} {r : AV} (hgo : goes Tryz.prog f = true) (hp : r.pureR = true)
    (h : ∀ (w : World) (Pr : Nat → Nat → Prop) (vs : Array Value), vs.size = args.length → (∀ (i : Nat) (a : AV) (v : Value), args[i]? = some a → vs[i]? = some v → VRel ⟨Pr, fun _ => none, fun _ => 0⟩ w a v) →
      ∃ v, (∀ G w', VRel G w' r v) ∧ Calls Tryz.prog f vs w fun e w' => e = .returned v ∧ Below w.heap.size w w') : Ans Tryz.prog f args r := by
  refine ⟨hgo, hp, fun w Pr vs hs hr hlt => ?_⟩
  obtain ⟨v, hv, hc⟩ := h w Pr vs hs hr
  refine hc.mono fun e w' ⟨he, hb⟩ => ⟨v, Pr, he, hv _ _, fun _ _ h => h, fun _ _ _ h => h, fun b o h => Nat.lt_of_lt_of_le (hlt b o h) hb.size, ⟨hb, fun q => q.elim⟩⟩
theorem StrRepeat_good (s : ByteArray) (c : Nat) (hc : c ≤ 1000000) (hs : s.size ≤ 1000) : Ans Tryz.prog 177 [.str s, .int .i64 (c : Int)] (.str ⟨(Lib.repeatL s.data.toList c).toArray⟩) := by
  refine ans_of (by kernel_rfl) rfl fun w Pr vs hsz hr => ⟨.string ⟨(Lib.repeatL s.data.toList c).toArray⟩, fun G w' => .str _, ?_⟩
  obtain ⟨x, y, rfl⟩ : ∃ x y, vs = #[x, y] := by
    match vs, hsz with
    | ⟨[x, y]⟩, _ => exact ⟨x, y, rfl⟩
  have h1 := hr 0 _ x rfl rfl
  have h2 := hr 1 _ y rfl rfl
  cases h1
  cases h2
  exact Any.strings_Repeat repL repX s c w (by omega) (Nat.le_trans (Nat.mul_le_mul hs hc) (by decide))
end Go.Proofs.YtbhgehhmjpipiaaGreat.C12
