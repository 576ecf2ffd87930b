/- Chapter 12: strings.Repeat, by the shelf's contract. -/
import Derived.Test.YtbhgehhmjpipiaaGreatDoorE3
import Derived.Shelf.Strings.Repeat
import Derived.Test.YtbhgehhmjpipiaaGreatDoorE7c
set_option linter.unusedSimpArgs false
set_option linter.unusedVariables false
namespace Go.Proofs.YtbhgehhmjpipiaaGreatDoor.C12
open Go Go.Proofs Go.Proofs.YtbhgehhmjpipiaaGreatDoor.Ab Go.Proofs.YtbhgehhmjpipiaaGreatDoor.C10 Go.RowKit
def repRen : Go.Shelf.Ren where
 f := fun x => match x with
  | 99 => 183
  | 105 => 151
  | 165 => 184
  | 166 => 185
  | 169 => 187
  | 170 => 186
  | 206 => 216
  | 212 => 182
  | 240 => 217
  | 241 => 218
  | 263 => 214
  | 264 => 215
  | 276 => 229
  | 277 => 230
  | n => n
 t := fun x => match x with
  | 0 => 0
  | 3 => 3
  | 4 => 4
  | 5 => 5
  | 9 => 9
  | 20 => 20
  | 37 => 219
  | 46 => 228
  | 51 => 264
  | 53 => 266
  | 70 => 240
  | 72 => 242
  | 75 => 245
  | 76 => 246
  | 80 => 249
  | 109 => 237
  | 127 => 274
  | 146 => 270
  | 148 => 272
  | 164 => 284
  | n => n
 g := fun n => n
theorem repL : Lays.n105 Tryz.prog repRen where
 mixed := mixed
 f99 := Tryz.func183.trans (congrArg some (by kernel_rfl))
 f105 := Tryz.func151.trans (congrArg some (by kernel_rfl))
 f165 := Tryz.func184.trans (congrArg some (by kernel_rfl))
 f166 := Tryz.func185.trans (congrArg some (by kernel_rfl))
 f169 := Tryz.func187.trans (congrArg some (by kernel_rfl))
 f170 := Tryz.func186.trans (congrArg some (by kernel_rfl))
 f206 := Tryz.func216.trans (congrArg some (by kernel_rfl))
 f212 := Tryz.func182.trans (congrArg some (by kernel_rfl))
 f240 := Tryz.func217.trans (congrArg some (by kernel_rfl))
 f241 := Tryz.func218.trans (congrArg some (by kernel_rfl))
 f263 := Tryz.func214.trans (congrArg some (by kernel_rfl))
 f264 := Tryz.func215.trans (congrArg some (by kernel_rfl))
 f276 := Tryz.func229.trans (congrArg some (by kernel_rfl))
 f277 := Tryz.func230.trans (congrArg some (by kernel_rfl))
 t0 := Tryz.underlying0
 a0 := Tryz.isAgg0
 z0 := Tryz.sizeOf0
 v0 := Tryz.zeroValue0
 t3 := Tryz.underlying3
 a3 := Tryz.isAgg3
 z3 := Tryz.sizeOf3
 v3 := Tryz.zeroValue3
 t4 := Tryz.underlying4
 a4 := Tryz.isAgg4
 z4 := Tryz.sizeOf4
 v4 := Tryz.zeroValue4
 t5 := Tryz.underlying5
 a5 := Tryz.isAgg5
 z5 := Tryz.sizeOf5
 v5 := Tryz.zeroValue5
 t9 := Tryz.underlying9
 a9 := Tryz.isAgg9
 z9 := Tryz.sizeOf9
 v9 := Tryz.zeroValue9
 t20 := Tryz.underlying20
 a20 := Tryz.isAgg20
 z20 := Tryz.sizeOf20
 v20 := Tryz.zeroValue20
 t37 := Tryz.underlying219
 a37 := Tryz.isAgg219
 z37 := Tryz.sizeOf219
 v37 := Tryz.zeroValue219
 t46 := Tryz.underlying228
 a46 := Tryz.isAgg228
 z46 := Tryz.sizeOf228
 v46 := Tryz.zeroValue228
 t51 := Tryz.underlying264
 a51 := Tryz.isAgg264
 z51 := Tryz.sizeOf264
 v51 := Tryz.zeroValue264
 t53 := Tryz.underlying266
 a53 := Tryz.isAgg266
 z53 := Tryz.sizeOf266
 v53 := Tryz.zeroValue266
 t70 := Tryz.underlying240
 a70 := Tryz.isAgg240
 z70 := Tryz.sizeOf240
 v70 := Tryz.zeroValue240
 t72 := Tryz.underlying242
 a72 := Tryz.isAgg242
 z72 := Tryz.sizeOf242
 v72 := Tryz.zeroValue242
 t75 := Tryz.underlying245
 a75 := Tryz.isAgg245
 z75 := Tryz.sizeOf245
 v75 := Tryz.zeroValue245
 t76 := Tryz.underlying246
 a76 := Tryz.isAgg246
 z76 := Tryz.sizeOf246
 v76 := Tryz.zeroValue246
 t109 := Tryz.underlying237
 a109 := Tryz.isAgg237
 z109 := Tryz.sizeOf237
 v109 := Tryz.zeroValue237
 t127 := Tryz.underlying274
 a127 := Tryz.isAgg274
 z127 := Tryz.sizeOf274
 v127 := Tryz.zeroValue274
 t146 := Tryz.underlying270
 a146 := Tryz.isAgg270
 z146 := Tryz.sizeOf270
 v146 := Tryz.zeroValue270
 t148 := Tryz.underlying272
 a148 := Tryz.isAgg272
 z148 := Tryz.sizeOf272
 v148 := Tryz.zeroValue272
 t164 := Tryz.underlying284
 a164 := Tryz.isAgg284
 z164 := Tryz.sizeOf284
 v164 := Tryz.zeroValue284
theorem repX : Builder.Extra Tryz.prog repRen where
 sizeBuilder := by kernel_rfl
 liesBuilder := by kernel_rfl
 t5 := repL.t5
 a5 := repL.a5
 z5 := repL.z5
 v5 := repL.v5
 infoByte := by kernel_rfl
 cellsByte := by kernel_rfl
 sizeByte := by kernel_rfl
 neB5 := by decide
theorem ans_of {f : FuncId} {args : List AV} {r : AV} (hgo : goes Tryz.prog f = true) (hp : r.pureR = true)
 (h : ∀ (w : World) (Pr : Nat → Nat → Prop) (vs : Array Value), vs.size = args.length → (∀ (i : Nat) (a : AV) (v : Value), args[i]? = some a → vs[i]? = some v → VRel ⟨Pr, fun _ => none, fun _ => 0⟩ w a v) →
   ∃ v, (∀ G w', VRel G w' r v) ∧ Calls Tryz.prog f vs w fun e w' => e = .returned v ∧ Below w.heap.size w w') : Ans Tryz.prog f args r := by
 refine ⟨hgo, hp, fun w Pr vs hs hr hlt hgl => ?_⟩
 obtain ⟨v, hv, hc⟩ := h w Pr vs hs hr
 refine hc.mono fun e w' ⟨he, hb⟩ => ⟨v, Pr, he, hv _ _, fun _ _ h => h, fun _ _ _ h => h, fun b o h => Nat.lt_of_lt_of_le (hlt b o h) hb.size, ⟨hb, fun q => q.elim⟩⟩
theorem StrRepeat_good (s : ByteArray) (c : Nat) (hc : c ≤ 1000000) (hs : s.size ≤ 1000) : Ans Tryz.prog 151 [.str s, .int .i64 (c : Int)] (.str ⟨(Lib.repeatL s.data.toList c).toArray⟩) := by
 refine ans_of (by kernel_rfl) rfl fun w Pr vs hsz hr => ⟨.string ⟨(Lib.repeatL s.data.toList c).toArray⟩, fun G w' => .str _, ?_⟩
 obtain ⟨x, y, rfl⟩ : ∃ x y, vs = #[x, y] := by
  match vs, hsz with
  | ⟨[x, y]⟩, _ => exact ⟨x, y, rfl⟩
 have h1 := hr 0 _ x rfl rfl
 have h2 := hr 1 _ y rfl rfl
 cases h1
 cases h2
 exact Any.strings_Repeat repL repX s c w (by omega) (Nat.le_trans (Nat.mul_le_mul hs hc) (by decide))
end Go.Proofs.YtbhgehhmjpipiaaGreatDoor.C12
namespace Go.Proofs.YtbhgehhmjpipiaaGreatDoor.C12
open Go Go.Proofs Go.Proofs.YtbhgehhmjpipiaaGreatDoor.Ab Go.Proofs.YtbhgehhmjpipiaaGreatDoor.C10
set_option maxRecDepth 100000
attribute [local congr] ite_ctx
def encByte (b : UInt8) : List AV := [.int .u8 (b.toNat : Int)]
@[go_sem] theorem rl_encByte (l : List UInt8) : rowsLen 1 (l.map encByte) = true := rowsLen_map fun _ => rfl
@[go_sem] theorem rf_encByte (l : List UInt8) : rowsF (l.map encByte) = true := rowsF_map fun _ => rfl
@[go_sem] theorem rp_encByte (l : List UInt8) : rowsP (l.map encByte) = true := rowsP_map fun _ => rfl
@[go_sem] theorem strOf_map (l : List UInt8) : Ab.strOf (l.map encByte) = some l := by
 induction l with
 | nil => rfl
 | cons b l ih =>
   simp only [List.map_cons, encByte, Ab.strOf]
   rw [ih]
   simp
theorem repeat_zero (n : Nat) : Lib.repeatL (⟨#[0]⟩ : ByteArray).data.toList n = List.replicate n 0 := by
 induction n with
 | zero => rfl
 | succ n ih => rw [List.replicate_succ, ← ih]; rfl
theorem Repeat0_good (n : Nat) (h : n ≤ 1000000) : Ans Tryz.prog 151 [.str ⟨#[0]⟩, .int .i64 (n : Int)] (.str (ofL (List.replicate n 0))) := by
 have := StrRepeat_good ⟨#[0]⟩ n h (by decide)
 rw [repeat_zero] at this
 exact this
theorem RepeatB_good (n : Nat) (hn : n ≤ 1000000) : Ans Tryz.prog 140 [.int .u8 0, .int .i64 (n : Int)] (.str (ofL (List.replicate n 0))) := by
 refine good_run [(3, [7, 8, 9, 10, 11, 12, 13, 14, 15], [14, 1501005015])] mixed Tryz.func140 rfl Tryz.ntmps140 (rs := [.tmp 4]) rfl (by decide +kernel) (by kernel_rfl) rfl ?_
 rw [startE_eq 18 _ _ _ rfl rfl]
 simp only [go_sem, seval]
 refine loop_by ([7, 8, 9, 10, 11, 12, 13, 14, 15], [14, 1501005015]) (fun i : Nat => [(.s 6, .int .i64 (i : Int)), (.o 14, deadV i), (.o 15, .obj (i + 1) 5 1 false true ((List.replicate i (0 : UInt8)).map encByte)), (.s 5, .ref 15 (i + 1))]) (fun i => n - i) (fun i => i ≤ n) 0 rfl (Nat.zero_le _) ?_ ?_
 · simp only [go_sem, seval]
 rintro c' st' hst i hi ih
 simp only [go_sem, seval]
 refine ifI (fun hlt => ?_) fun hlt => ?_
 · simp only [go_sem, seval, hlt, List.length_replicate, show (i + 1) * 1 ≤ 140737488355328 by omega, show i + 1 ≤ maxLen by unfold maxLen; omega]
   have hr : encByte 0 :: List.map encByte (List.replicate i 0) = List.map encByte (List.replicate i 0) ++ [[.int .u8 0]] := by
    rw [show encByte 0 :: List.map encByte (List.replicate i 0) = List.map encByte (List.replicate (i + 1) 0) from rfl, List.replicate_succ', List.map_append]; rfl
   refine ih (i + 1) _ (by omega) (by omega) ?_
   simp only [go_sem, seval, wrap_succ (show i < 9223372036854775807 by omega), hr]
 have hni : i = n := by omega
 subst hst hni
 simp only [go_sem, seval, hlt]
 rfl
theorem within176_good (n lo hi : Int) : Ans Tryz.prog 150 [.int .i64 n, .int .i64 lo, .int .i64 hi] (.bool (inB n lo hi)) := by
 refine good_run [] mixed Tryz.func150 rfl Tryz.ntmps150 (rs := [.tmp 6]) rfl (by decide +kernel) (by kernel_rfl) rfl ?_
 rw [startE_eq 15 _ _ _ rfl rfl]
 simp (contextual := true) only [go_sem, ifP_eq, seval]
 split <;> simp_all [inB] <;> omega
theorem bools_zero (n : Nat) : List.replicate n [AV.bool false] = (List.replicate n false).map encB := by rw [List.map_replicate]; rfl
theorem NewStorage_good (n : Nat) (h : n ≤ 64) : Ans Tryz.prog 113 [.int .i64 (n : Int)] (.tup [.agg (encStg (zStg n)), .int .i64 0]) := by
 have hw := within176_good (n : Int) 0 64
 rw [show inB (n : Int) 0 64 = true by unfold inB; exact decide_eq_true (by omega)] at hw
 have hr := Repeat0_good (n * 16) (by omega)
 have hm : IntKind.wrap .i64 ((n : Int) * 16) = ((n * 16 : Nat) : Int) := by rw [wrap_i64 (by omega) (by omega)]; omega
 have hz : encStg (zStg n) = [.str (ofL (List.replicate (n * 16) 0)), .sl (List.replicate n [AV.bool false])] := by unfold encStg zStg; rw [bools_zero, Nat.mul_comm]
 have b0 : (0 : Int) ≤ (n : Int) := by omega
 have b1 : (n : Int) ≤ 16777216 := by omega
 have b2 : n * 1 ≤ 140737488355328 := by omega
 rw [hz]
 refine good_run [] mixed Tryz.func113 rfl Tryz.ntmps113 (rs := [.cell 2 91, .tmp 3]) rfl (by decide +kernel) (by kernel_rfl) rfl ?_
 rw [startE_eq 14 _ _ _ rfl rfl]
 simp only [go_sem, seval]
 refine call_of (hw) ?_
 simp only [go_sem, seval, Bool.not_true, hm]
 refine callD_of (hr) ?_
 simp only [go_sem, seval, b0, b1, b2, Int.toNat_natCast]
 decide +kernel
theorem storage_good (n : Nat) (h : n ≤ 64) : Ans Tryz.prog 67 [.int .i64 (n : Int)] (.agg (encStg (zStg n))) := by
 have hn := NewStorage_good n h
 refine good_run [] mixed Tryz.func67 rfl Tryz.ntmps67 (rs := [.cell 2 91]) rfl (by decide +kernel) (by kernel_rfl) rfl ?_
 rw [startE_eq 11 _ _ _ rfl rfl]
 simp only [go_sem, seval]
 refine call_of (hn) ?_
 simp only [go_sem, seval]
theorem rNew_good (n : Nat) (h : n ≤ 64) : Ans Tryz.prog 108 [.int .i64 (n : Int)] (.agg (encStg (zStg n))) := by
 have hr := RepeatB_good (n * 16) (by omega)
 have hm : IntKind.wrap .i64 ((n : Int) * 16) = ((n * 16 : Nat) : Int) := by rw [wrap_i64 (by omega) (by omega)]; omega
 have hz : encStg (zStg n) = [.str (ofL (List.replicate (n * 16) 0)), .sl (List.replicate n [AV.bool false])] := by unfold encStg zStg; rw [bools_zero, Nat.mul_comm]
 have b0 : (0 : Int) ≤ (n : Int) := by omega
 have b1 : (n : Int) ≤ 16777216 := by omega
 have b2 : n * 1 ≤ 140737488355328 := by omega
 rw [hz]
 refine good_run [] mixed Tryz.func108 rfl Tryz.ntmps108 (rs := [.cell 2 91]) rfl (by decide +kernel) (by kernel_rfl) rfl ?_
 rw [startE_eq 9 _ _ _ rfl rfl]
 simp only [go_sem, seval, hm]
 refine callD_of (hr) ?_
 simp only [go_sem, seval, b0, b1, b2, Int.toNat_natCast]
 decide +kernel
theorem quadsOf_good (c : Case) (k : Nat) (h : c.sec.objects.length ≤ 1000000) : Ans Tryz.prog 68 [.agg (encCase c), .int .i64 (k : Int)] (.int .i64 ((quadsC (cc c) k : Nat) : Int)) := by
 have hs := isSpace_good c (k : Int) h
 have hd : quadsC (cc c) k = if spB c (k : Int) = true then 60 else 0 := rfl
 rw [hd]
 cases hb : spB c (k : Int) with
 | true =>
   rw [hb] at hs
   refine good_run [] mixed Tryz.func68 rfl Tryz.ntmps68 (rs := [.tmp 4]) rfl (by decide +kernel) (by kernel_rfl) rfl ?_
   rw [startE_eq 8 _ _ _ rfl rfl]
   simp only [go_sem, seval]
   refine call_of (hs) ?_
   simp only [go_sem, seval]
 | false =>
   rw [hb] at hs
   refine good_run [] mixed Tryz.func68 rfl Tryz.ntmps68 (rs := [.tmp 4]) rfl (by decide +kernel) (by kernel_rfl) rfl ?_
   rw [startE_eq 8 _ _ _ rfl rfl]
   simp only [go_sem, seval]
   refine call_of (hs) ?_
   simp only [go_sem, seval]
theorem Count_good (b : Bool) : Ans Tryz.prog 79 [.bool b] (.int .i64 (if b = true then 1 else 0)) := by
 cases b with
 | false =>
   refine good_run [] mixed Tryz.func79 rfl Tryz.ntmps79 (rs := [.tmp 2]) rfl (by decide +kernel) (by kernel_rfl) rfl ?_
   rw [startE_eq 4 _ _ _ rfl rfl]
   simp only [go_sem, seval]
 | true =>
   refine good_run [] mixed Tryz.func79 rfl Tryz.ntmps79 (rs := [.tmp 2]) rfl (by decide +kernel) (by kernel_rfl) rfl ?_
   rw [startE_eq 4 _ _ _ rfl rfl]
   simp only [go_sem, seval]
theorem quads_le (C : CC) (k : Nat) : quadsC C k ≤ 60 := by unfold quadsC; split <;> omega
theorem jobs_snoc (z : Stg) (i : Nat) : [AV.str z.bytes, .sl (z.tags.map encB)] :: List.map encStg (List.replicate i z) = List.map encStg (List.replicate i z) ++ [[.str z.bytes, .sl (z.tags.map encB)]] := by
 rw [show [AV.str z.bytes, .sl (z.tags.map encB)] :: List.map encStg (List.replicate i z) = List.map encStg (List.replicate (i + 1) z) from rfl, List.replicate_succ', List.map_append]; rfl
set_option maxHeartbeats 4000000 in
theorem start_good (c : Case) (h : Right c) : Ans Tryz.prog 36 [.agg (encCase c)] (.agg (encSt (startS (cc c)))) := by
 have hJ := h.J
 have hO := h.O
 have hz := storage_good 60 (by decide)
 have hq := fun k : Nat => quadsOf_good c k (by omega)
 have he : startS (cc c) = ⟨List.replicate c.users.length (zStg 60), (List.range c.sec.objects.length).map fun k => zStg (quadsC (cc c) k)⟩ := rfl
 rw [he]
 obtain ⟨f, hf⟩ : ∃ f : Nat → Stg, (fun k => zStg (quadsC (cc c) k)) = f := ⟨_, rfl⟩
 have hs : ∀ k : Nat, Ans Tryz.prog 67 [.int .i64 ((quadsC (cc c) k : Nat) : Int)] (.agg (encStg (f k))) := fun k => by
  rw [← hf]; exact storage_good (quadsC (cc c) k) (by have := quads_le (cc c) k; omega)
 rw [hf]
 clear hf he
 generalize zStg 60 = z at hz
 refine good_run [(7, [4, 22, 23, 24, 25, 26, 27, 28, 29, 30, 31, 32, 33], [30, 201302091031]), (3, [9, 10, 11, 12, 13, 14, 15, 16], [13, 101302091014])] mixed Tryz.func36 rfl Tryz.ntmps36 (rs := [.cell 2 37]) rfl (by decide +kernel) (by kernel_rfl) rfl ?_
 rw [startE_eq 35 _ _ _ rfl rfl]
 simp only [go_sem, seval]
 refine loop_by ([9, 10, 11, 12, 13, 14, 15, 16], [13, 101302091014]) (fun i : Nat => [(.s 8, .int .i64 (i : Int)), (.o 13, deadV i), (.o 14, .obj (i + 1) 91 2 false true ((List.replicate i z).map encStg)), (.o 3, .obj 1 37 2 false false [[.ref 14 (i + 1), .nils]])]) (fun i => c.users.length - i) (fun i => i ≤ c.users.length) 0 rfl (Nat.zero_le _) ?_ ?_
 · simp only [go_sem, seval]
 rintro c' st' hst i0 hi ih
 simp only [go_sem, seval]
 refine ifI (fun hlt => ?_) fun hlt => ?_
 · simp only [go_sem, seval, hlt]
   refine callD_of (hz) ?_
   simp only [go_sem, seval, List.length_replicate, show (i0 + 1) * 40 ≤ 140737488355328 by omega, show i0 + 1 ≤ maxLen by unfold maxLen; omega]
   refine ⟨by decide +kernel, ?_⟩
   refine ih (i0 + 1) _ (by omega) (by omega) ?_
   simp only [go_sem, seval, wrap_succ (show i0 < 9223372036854775807 by omega), jobs_snoc]
 have hn1 : i0 = c.users.length := by omega
 subst hst
 clear ih hi hlt
 simp only [go_sem, seval, hn1]
 refine loop_by ([4, 22, 23, 24, 25, 26, 27, 28, 29, 30, 31, 32, 33], [30, 201302091031]) (fun i : Nat => [(.s 21, .int .i64 (i : Int)), (.o 30, deadV i), (.o 31, .obj (i + 1) 91 2 false true (((List.range i).map f).map encStg)), (.o 3, .obj 1 37 2 false false [[.ref 14 (c.users.length + 1), .ref 31 (i + 1)]])]) (fun i => c.sec.objects.length - i) (fun i => i ≤ c.sec.objects.length) 0 rfl (Nat.zero_le _) ?_ ?_
 · simp only [go_sem, seval, List.range_zero, List.map_nil]
 rintro c' st' hst i1 hi ih
 simp only [go_sem, seval]
 refine ifI (fun hlt => ?_) fun hlt => ?_
 · simp only [go_sem, seval, hlt]
   refine callD_of (hq i1) ?_
   simp only [go_sem, seval]
   refine callD_of (hs i1) ?_
   simp only [go_sem, seval, List.length_map, List.length_range, show (i1 + 1) * 40 ≤ 140737488355328 by omega, show i1 + 1 ≤ maxLen by unfold maxLen; omega]
   refine ⟨by decide +kernel, ?_⟩
   refine ih (i1 + 1) _ (by omega) (by omega) ?_
   simp only [go_sem, seval, wrap_succ (show i1 < 9223372036854775807 by omega), List.map_append, List.map_cons, List.map_nil]
 have hn2 : i1 = c.sec.objects.length := by omega
 subst hst
 simp only [go_sem, seval, hlt, hn2]
set_option maxHeartbeats 4000000 in
theorem rStart_good (c : Case) (h : Right c) : Ans Tryz.prog 61 [.agg (encCase c)] (.agg (encSt (startS (cc c)))) := by
 have hJ := h.J
 have hO := h.O
 have hz := rNew_good 60 (by decide)
 have hq := fun (k : Nat) (hk : k < c.sec.objects.length) => IsSpace_good c (k : Int) (by omega)
 have hc := fun k : Nat => Count_good (spB c (k : Int))
 have he : startS (cc c) = ⟨List.replicate c.users.length (zStg 60), (List.range c.sec.objects.length).map fun k => zStg (quadsC (cc c) k)⟩ := rfl
 rw [he]
 obtain ⟨f, hf⟩ : ∃ f : Nat → Stg, (fun k => zStg (quadsC (cc c) k)) = f := ⟨_, rfl⟩
 have hs : ∀ k : Nat, Ans Tryz.prog 108 [.int .i64 ((quadsC (cc c) k : Nat) : Int)] (.agg (encStg (f k))) := fun k => by
  rw [← hf]; exact rNew_good (quadsC (cc c) k) (by have := quads_le (cc c) k; omega)
 have hm : ∀ k : Nat, IntKind.wrap .i64 (60 * (if spB c (k : Int) = true then 1 else 0)) = ((quadsC (cc c) k : Nat) : Int) := fun k => by
  have hd : quadsC (cc c) k = if spB c (k : Int) = true then 60 else 0 := rfl
  rw [hd]; split <;> rfl
 rw [hf]
 clear hf he
 generalize zStg 60 = z at hz
 refine good_run [(7, [20, 21, 22, 23, 24, 25, 26, 27, 28, 29, 30, 31, 32, 33, 34, 35, 36, 37, 38], [36, 201302091037]), (3, [7, 8, 9, 10, 11, 12, 13, 14, 15, 16, 17, 18, 19], [17, 101302091018])] mixed Tryz.func61 rfl Tryz.ntmps61 (rs := [.cell 2 37]) rfl (by decide +kernel) (by kernel_rfl) rfl ?_
 rw [startE_eq 40 _ _ _ rfl rfl]
 simp only [go_sem, seval]
 refine loop_by ([7, 8, 9, 10, 11, 12, 13, 14, 15, 16, 17, 18, 19], [17, 101302091018]) (fun i : Nat => [(.s 4, .int .i64 (i : Int)), (.o 17, deadV i), (.o 18, .obj (i + 1) 91 2 false true ((List.replicate i z).map encStg)), (.o 3, .obj 1 37 2 false false [[.ref 18 (i + 1), .nils]])]) (fun i => c.users.length - i) (fun i => i ≤ c.users.length) 0 rfl (Nat.zero_le _) ?_ ?_
 · simp only [go_sem, seval]
 rintro c' st' hst i0 hi ih
 simp only [go_sem, seval]
 refine ifI (fun hlt => ?_) fun hlt => ?_
 · simp only [go_sem, seval, hlt]
   refine callD_of (hz) ?_
   simp only [go_sem, seval, List.length_replicate, show (i0 + 1) * 40 ≤ 140737488355328 by omega, show i0 + 1 ≤ maxLen by unfold maxLen; omega]
   refine ⟨by decide +kernel, ?_⟩
   refine ih (i0 + 1) _ (by omega) (by omega) ?_
   simp only [go_sem, seval, wrap_succ (show i0 < 9223372036854775807 by omega), jobs_snoc]
 have hn1 : i0 = c.users.length := by omega
 subst hst
 clear ih hi hlt
 simp only [go_sem, seval, hn1]
 refine loop_by ([20, 21, 22, 23, 24, 25, 26, 27, 28, 29, 30, 31, 32, 33, 34, 35, 36, 37, 38], [36, 201302091037]) (fun i : Nat => [(.s 5, .int .i64 (i : Int)), (.o 36, deadV i), (.o 37, .obj (i + 1) 91 2 false true (((List.range i).map f).map encStg)), (.o 3, .obj 1 37 2 false false [[.ref 18 (c.users.length + 1), .ref 37 (i + 1)]])]) (fun i => c.sec.objects.length - i) (fun i => i ≤ c.sec.objects.length) 0 rfl (Nat.zero_le _) ?_ ?_
 · simp only [go_sem, seval, List.range_zero, List.map_nil]
 rintro c' st' hst i1 hi ih
 simp only [go_sem, seval]
 refine ifI (fun hlt => ?_) fun hlt => ?_
 · simp only [go_sem, seval, hlt]
   refine callD_of (hq i1 (by omega)) ?_
   simp only [go_sem, seval]
   refine callD_of (hc i1) ?_
   simp only [go_sem, seval, hm]
   refine callD_of (hs i1) ?_
   simp only [go_sem, seval, List.length_map, List.length_range, show (i1 + 1) * 40 ≤ 140737488355328 by omega, show i1 + 1 ≤ maxLen by unfold maxLen; omega]
   refine ⟨by decide +kernel, ?_⟩
   refine ih (i1 + 1) _ (by omega) (by omega) ?_
   simp only [go_sem, seval, wrap_succ (show i1 < 9223372036854775807 by omega), List.map_append, List.map_cons, List.map_nil]
 have hn2 : i1 = c.sec.objects.length := by omega
 subst hst
 simp only [go_sem, seval, hlt, hn2]
theorem none_good : Ans Tryz.prog 26 [.agg [.nils, .nils]] (.bool true) := by
 refine good_run [] mixed Tryz.func26 rfl Tryz.ntmps26 (rs := [.tmp 2]) rfl (by decide +kernel) (by kernel_rfl) rfl ?_
 rw [startE_eq 13 _ _ _ rfl rfl]
 simp only [go_sem, seval]
theorem Bools_self (l : List Bool) (h : l.length ≤ 1000000) : Ans Tryz.prog 139 [.sl (l.map encB), .sl (l.map encB)] (.bool true) := by
 refine good_run [(4, [4, 11, 12, 13, 14, 15, 16, 17, 18, 19, 20, 21, 22, 23, 24, 25], [])] mixed Tryz.func139 rfl Tryz.ntmps139 (rs := [.tmp 4]) rfl (by decide +kernel) (by kernel_rfl) rfl ?_
 rw [startE_eq 26 _ _ _ rfl rfl]
 simp only [go_sem, seval]
 refine loop_by ([4, 11, 12, 13, 14, 15, 16, 17, 18, 19, 20, 21, 22, 23, 24, 25], []) (fun i : Nat => [(.s 5, .int .i64 (i : Int))]) (fun i => l.length - i) (fun i => i ≤ l.length) 0 rfl (Nat.zero_le _) rfl ?_
 rintro c' st' hst i hi ih
 simp only [go_sem, seval]
 refine ifI (fun hlt => ?_) fun hlt => ?_
 · have hlt' : i < l.length := by omega
   simp only [go_sem, seval, hlt, hlt', beq_self_eq_true, Bool.not_true, bne_self_eq_false]
   refine ⟨by decide +kernel, ?_⟩
   refine ih (i + 1) _ (by omega) (by omega) ?_
   simp only [go_sem, seval, wrap_succ (show i < 9223372036854775807 by omega)]
 · subst hst
   simp only [go_sem, seval, hlt]
theorem SameStg_self (x : Stg) (h : x.tags.length ≤ 1000000) : Ans Tryz.prog 107 [.agg (encStg x), .agg (encStg x)] (.bool true) := by
 have hb := Bools_self x.tags h
 refine good_run [] mixed Tryz.func107 rfl Tryz.ntmps107 (rs := [.tmp 4]) rfl (by decide +kernel) (by kernel_rfl) rfl ?_
 rw [startE_eq 17 _ _ _ rfl rfl]
 simp only [go_sem, seval, beq_self_eq_true]
 refine call_of (hb) ?_
 simp only [go_sem, seval]
theorem sameAll_self (l : List Stg) (h : l.length ≤ 1000000) (hl : ∀ x ∈ l, x.tags.length ≤ 1000000) : Ans Tryz.prog 60 [.sl (l.map encStg), .sl (l.map encStg)] (.bool true) := by
 refine good_run [(4, [4, 11, 12, 13, 14, 15, 16, 17, 18, 19, 20, 21, 22, 23, 24, 25, 26], [])] mixed Tryz.func60 rfl Tryz.ntmps60 (rs := [.tmp 4]) rfl (by decide +kernel) (by kernel_rfl) rfl ?_
 rw [startE_eq 27 _ _ _ rfl rfl]
 simp only [go_sem, seval]
 refine loop_by ([4, 11, 12, 13, 14, 15, 16, 17, 18, 19, 20, 21, 22, 23, 24, 25, 26], []) (fun i : Nat => [(.s 5, .int .i64 (i : Int))]) (fun i => l.length - i) (fun i => i ≤ l.length) 0 rfl (Nat.zero_le _) rfl ?_
 rintro c' st' hst i hi ih
 simp only [go_sem, seval]
 refine ifI (fun hlt => ?_) fun hlt => ?_
 · have hlt' : i < l.length := by omega
   have hs := SameStg_self (nth l i) (hl _ (nth_mem hlt'))
   simp only [go_sem, seval, hlt, hlt']
   refine callD_of (hs) ?_
   simp only [go_sem, seval, Bool.not_true]
   refine ⟨by decide +kernel, ?_⟩
   refine ih (i + 1) _ (by omega) (by omega) ?_
   simp only [go_sem, seval, wrap_succ (show i < 9223372036854775807 by omega)]
 · subst hst
   simp only [go_sem, seval, hlt]
theorem SameState_self (s : St) (h1 : s.jobs.length ≤ 1000000) (h2 : s.spaces.length ≤ 1000000) (h3 : ∀ x ∈ s.jobs, x.tags.length ≤ 1000000) (h4 : ∀ x ∈ s.spaces, x.tags.length ≤ 1000000) : Ans Tryz.prog 28 [.agg (encSt s), .agg (encSt s)] (.bool true) := by
 have ha := sameAll_self s.jobs h1 h3
 have hb := sameAll_self s.spaces h2 h4
 refine good_run [] mixed Tryz.func28 rfl Tryz.ntmps28 (rs := [.tmp 4]) rfl (by decide +kernel) (by kernel_rfl) rfl ?_
 rw [startE_eq 17 _ _ _ rfl rfl]
 simp only [go_sem, seval]
 refine call_of (ha) ?_
 simp only [go_sem, seval]
 refine call_of (hb) ?_
 simp only [go_sem, seval]
end Go.Proofs.YtbhgehhmjpipiaaGreatDoor.C12
