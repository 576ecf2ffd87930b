/- Chapter 12: capabilities as the model has them. -/
import Derived.Test.YtbhgehhmjpipiaaGreatDoorE3
import Derived.Shelf.SlIterI.Collect
import Derived.RangeFuncBox
import Derived.RangeFuncLeaves
import Derived.WalkKit
import Derived.OwnWalkIn
import Derived.TacticsInMore
import Derived.LoopNIn
import Derived.LoopIn
set_option linter.unusedSimpArgs false
set_option linter.unusedVariables false
namespace Go.Proofs.YtbhgehhmjpipiaaGreatDoor.C12
open Go Go.Proofs Go.Proofs.YtbhgehhmjpipiaaGreatDoor.Ab Go.Proofs.YtbhgehhmjpipiaaGreatDoor.C10
def encCV (x : Cap) : List Value := [.int .i64 x.job, .int .i64 x.object, .int .i64 x.kind, .int .i64 x.auth]
theorem rel_encCV {G : Gh} {w : World} {x : Cap} {j : Nat} {a : AV} {v : Value} (ha : (encCap x)[j]? = some a) (h : VRel G w a v) : (encCV x)[j]? = some v := by
 match j, ha with
 | 0, ha => cases ha; cases h; rfl
 | 1, ha => cases ha; cases h; rfl
 | 2, ha => cases ha; cases h; rfl
 | 3, ha => cases ha; cases h; rfl
 | j + 4, ha => simp [encCap] at ha
theorem encCV_rel (G : Gh) (w : World) {x : Cap} {j : Nat} {a : AV} {v : Value} (ha : (encCap x)[j]? = some a) (hv : (encCV x)[j]? = some v) : VRel G w a v := by
 match j, ha, hv with
 | 0, ha, hv => cases ha; cases hv; exact .int _ _
 | 1, ha, hv => cases ha; cases hv; exact .int _ _
 | 2, ha, hv => cases ha; cases hv; exact .int _ _
 | 3, ha, hv => cases ha; cases hv; exact .int _ _
 | j + 4, ha, hv => simp [encCap] at ha
theorem agg_encC (G : Gh) (w : World) (x : Cap) : VRel G w (.agg (encCap x)) (.agg (encCV x).toArray) :=
 .agg _ _ rfl fun i c v hc hv => encCV_rel G w hc (by simpa using hv)
def flC (l : List Cap) : List Value := l.flatMap encCV
theorem flC_cons (x : Cap) (l : List Cap) : flC (x :: l) = encCV x ++ flC l := by rw [flC, flC, List.flatMap_cons]
theorem flC_append (a b : List Cap) : flC (a ++ b) = flC a ++ flC b := by rw [flC, List.flatMap_append]; rfl
theorem flC_get : ∀ (l : List Cap) (i j : Nat) (x : Cap) (v : Value), l[i]? = some x → (encCV x)[j]? = some v → (flC l)[i * 4 + j]? = some v
 | [], i, j, x, v, h, _ => by cases h
 | a :: l, 0, j, x, v, h, hv => by
   simp at h; subst h
   have hj : j < 4 := by have := (List.getElem?_eq_some_iff.1 hv).1; simpa [encCV] using this
   rw [flC_cons, List.getElem?_append_left (by simp [encCV]; omega), Nat.zero_mul, Nat.zero_add]; exact hv
 | a :: l, i + 1, j, x, v, h, hv => by
   have ih := flC_get l i j x v (by simpa using h) hv
   rw [flC_cons, List.getElem?_append_right (by simp [encCV]; omega)]
   have : (i + 1) * 4 + j - (encCV a).length = i * 4 + j := by simp [encCV]; omega
   rw [this]; exact ih
theorem encCV_one (x : Cap) : ∀ v ∈ encCV x, v.oneCell' = true := by
 intro v hv
 simp only [encCV, List.mem_cons, List.not_mem_nil, or_false] at hv
 rcases hv with rfl | rfl | rfl | rfl <;> rfl
end Go.Proofs.YtbhgehhmjpipiaaGreatDoor.C12
namespace Go.Proofs.YtbhgehhmjpipiaaGreatDoor.C12
open Go Go.Proofs Go.RowKit Go.Shelf
attribute [local go_sem] Oper.semAt_some
def intV : Value → Int
 | .int _ n => n
 | _ => 0
theorem grown_alloc (W : World) (o : Obj) : W.grownBy (W.alloc o) none := ⟨rfl, rfl, rfl, by simp, fun k hk _ => Below.heap_alloc W o k hk⟩
set_option maxRecDepth 100000 in
set_option maxHeartbeats 2000000 in
theorem valC_in (F : Fence) (n : Nat) (h7 : F.fn 130) (hro : F.round = none) (hn : 1 ≤ n) (l Bs bo b off cap n₀ : Nat) (zs : List Cap) (hreach : zs.length * 32 ≤ 140737488351232) (hb : b < n₀) (J : List Cap → World → Prop) (W : World)
 (hJb : ∀ pre W', J pre W' → ∀ a : Addr, a.block < n₀ → W'.cell? a = W.cell? a) (hJg : ∀ s W1 W2, J s W1 → W1.grownBy W2 none → J s W2)
 (hY : ∀ pre x W, J pre W → pre.length < zs.length → YieldAt F (n - 1) Tryz.prog l #[.agg #[.int .i64 x.job, .int .i64 x.object, .int .i64 x.kind, .int .i64 x.auth]] W fun e W' => e = .returned (.bool true) ∧ J (pre ++ [x]) W')
 (hBs : W.cell? ⟨Bs, bo, none⟩ = some (.slice (some ⟨b, off, none⟩) zs.length cap))
 (hc : ∀ i x, zs[i]? = some x → ∀ j v, (encCV x)[j]? = some v → W.cell? ⟨b, off + i * 4 + j, none⟩ = some v) (h0 : J [] W) :
 CallsIn F n Tryz.prog 130 #[.func (.yield l) #[] #[], .pointer (some ⟨Bs, bo, none⟩)] W fun e W' => (∃ v, e = .returned v) ∧ J zs W' := by
 refine callsIn_of_wp Tryz.func130 rfl h7 ?_ hro
 simp only [Tryz.ntmps130, List.size_toArray, List.length_cons, List.length_nil, Nat.reduceAdd, Nat.reduceSub, Array.replicate_succ, Array.replicate_zero, List.push_toArray, List.append_toArray, List.nil_append, List.cons_append]
 gi_wp2
 gi_loopw [7] (fun i wr => ∃ k : Nat, k ≤ zs.length ∧ i = .int .i64 k ∧ J (zs.take k) wr)
  (fun i _ => zs.length - (intV i).toNat)
 case atStart => exact ⟨0, Nat.zero_le _, rfl, h0⟩
 case round =>
  obtain ⟨k, hk, rfl, hJs⟩ := hrel
  have hnx := hJb _ _ hJs
  by_cases hlt : k < zs.length
  · have hx : zs[k]? = some zs[k] := List.getElem?_eq_getElem hlt
    have hcx : ∀ j v, (encCV zs[k])[j]? = some v → wr.cell? ⟨b, off + k * 4 + j, none⟩ = some v := fun j v hv => (hnx ⟨b, off + k * 4 + j, none⟩ hb).trans (hc k _ hx j v hv)
    clear hnx
    have c0 := hcx 0 _ rfl
    rw [Nat.add_zero] at c0
    have c1 := hcx 1 _ rfl
    have c2 := hcx 2 _ rfl
    have c3 := hcx 3 _ rfl
    have hJ2 : J (zs.take k) (wr.alloc (Obj.cells #[.int .i64 zs[k].job, .int .i64 zs[k].object, .int .i64 zs[k].kind, .int .i64 zs[k].auth] 53)) := hJg _ _ _ hJs (grown_alloc _ _)
    obtain ⟨fn, tmps, assign, body, hy, hR⟩ := hY _ zs[k] _ hJ2 (by rw [List.length_take]; omega)
    clear hJ2
    gi_wp2
    refine hR.mono ?_
    rintro e W3 ⟨rfl, hJ3⟩
    gi_wp2
    go_roundw
    case rel => exact ⟨k + 1, by omega, by simp, by rw [List.take_add_one, hx]; exact hJ3⟩
    case measure => simp [intV]; omega
  · obtain rfl : k = zs.length := by omega
    gi_wp2
    go_end0
    exact ⟨⟨_, rfl⟩, by rw [List.take_length] at hJs; exact hJs⟩
set_option maxRecDepth 100000 in
set_option maxHeartbeats 1000000 in
theorem valC0_in (F : Fence) (n : Nat) (h7 : F.fn 130) (hro : F.round = none) (l Bs bo cap : Nat) (A : Option Addr) (J : List Cap → World → Prop) (W : World)
 (hBs : W.cell? ⟨Bs, bo, none⟩ = some (.slice A 0 cap)) (h0 : J [] W) :
 CallsIn F n Tryz.prog 130 #[.func (.yield l) #[] #[], .pointer (some ⟨Bs, bo, none⟩)] W fun e W' => (∃ v, e = .returned v) ∧ J [] W' := by
 refine callsIn_of_wp Tryz.func130 rfl h7 ?_ hro
 simp only [Tryz.ntmps130, List.size_toArray, List.length_cons, List.length_nil, Nat.reduceAdd, Nat.reduceSub, Array.replicate_succ, Array.replicate_zero, List.push_toArray, List.append_toArray, List.nil_append, List.cons_append]
 gi_wp2
 gi_loopw [7] (fun i wr => i = .int .i64 0 ∧ J [] wr) (fun _ _ => 0)
 case atStart => exact ⟨rfl, h0⟩
 case round =>
  obtain ⟨rfl, hJs⟩ := hrel
  gi_wp2
  go_end0
  exact ⟨⟨_, rfl⟩, hJs⟩
def SlC (n₀ : Nat) (W : World) (A : Option Addr) (zs : List Cap) : Prop := zs = [] ∨ ∃ b off, A = some ⟨b, off, none⟩ ∧ b < n₀ ∧ ∀ i x, zs[i]? = some x → ∀ j v, (encCV x)[j]? = some v → W.cell? ⟨b, off + i * 4 + j, none⟩ = some v
theorem valA_in (F : Fence) (n : Nat) (h7 : F.fn 130) (hro : F.round = none) (hn : 1 ≤ n) (l Bs bo cap n₀ : Nat) (A : Option Addr) (zs : List Cap) (hreach : zs.length * 32 ≤ 140737488351232) (J : List Cap → World → Prop) (W : World)
 (hJb : ∀ pre W', J pre W' → ∀ a : Addr, a.block < n₀ → W'.cell? a = W.cell? a) (hJg : ∀ s W1 W2, J s W1 → W1.grownBy W2 none → J s W2)
 (hY : ∀ pre x W, J pre W → pre.length < zs.length → YieldAt F (n - 1) Tryz.prog l #[.agg #[.int .i64 x.job, .int .i64 x.object, .int .i64 x.kind, .int .i64 x.auth]] W fun e W' => e = .returned (.bool true) ∧ J (pre ++ [x]) W')
 (hBs : W.cell? ⟨Bs, bo, none⟩ = some (.slice A zs.length cap)) (hA : SlC n₀ W A zs) (h0 : J [] W) :
 CallsIn F n Tryz.prog 130 #[.func (.yield l) #[] #[], .pointer (some ⟨Bs, bo, none⟩)] W fun e W' => (∃ v, e = .returned v) ∧ J zs W' := by
 rcases hA with rfl | ⟨b, off, rfl, hb, hc⟩
 · exact valC0_in F n h7 hro l Bs bo cap A J W hBs h0
 · exact valC_in F n h7 hro hn l Bs bo b off cap n₀ zs hreach hb J W hJb hJg hY hBs hc h0
def rfOf : Code → Option (Code × Code)
 | .rangeFunc _ _ a b => some (a, b)
 | .seq x y => match rfOf x with
   | some r => some r
   | none => rfOf y
 | .block _ x => rfOf x
 | _ => none
def apRec (A B : Code) (fn : FuncId) (sv : Value) (Bs D : Nat) (st : LoopState) (pend : Option Code) : Loop :=
 { state := st, pending := pend, fn, tmps := #[.slice none 0 0, sv, .pointer (some ⟨Bs, 0, none⟩), undef, .slice none 0 0, undef, sv, undef, undef, undef, undef, undef, undef], params := #[7], assign := A, body := B, defers := D }
def vC (x : Cap) : Value := .agg #[.int .i64 x.job, .int .i64 x.object, .int .i64 x.kind, .int .i64 x.auth]
theorem flC_snoc (l : List Cap) (x : Cap) : flC (l ++ [x]) = flC l ++ encCV x := by rw [flC_append, flC_cons]; simp [flC]
structure ApC (A B : Code) (w0 : World) (fn : FuncId) (sv : Value) (Bs l D : Nat) (ss : List Cap) (W : World) : Prop where
 box : ∃ v, W.heap[Bs]? = some (.cells #[v] 45 (0, 0)) ∧ W.ownsRow w0.heap.size 53 4 v ss.length (flC ss) ∧ (v = .slice none 0 0 ↔ ss = [])
 L : W.heap[l]? = some (.loop (apRec A B fn sv Bs D .ready none))
 K : W.heap[D]? = some (.deferred (some []))
 below : Below w0.heap.size w0 W
theorem cell_new (w : World) (x : Cap) (t : TypeId) : ∀ j u, (encCV x)[j]? = some u → (w.alloc (.cells #[.int .i64 x.job, .int .i64 x.object, .int .i64 x.kind, .int .i64 x.auth] t)).cell? ((⟨w.heap.size, 0, none⟩ : Addr).add j) = some u := by
 intro j u hj
 have hn := World.alloc_heap_new w (.cells #[.int .i64 x.job, .int .i64 x.object, .int .i64 x.kind, .int .i64 x.auth] t)
 match j, hj with
 | 0, hj => cases hj; refine (show World.cell? _ ⟨w.heap.size, 0, none⟩ = _ from ?_); unfold World.cell?; dsimp only; rw [hn]; rfl
 | 1, hj => cases hj; refine (show World.cell? _ ⟨w.heap.size, 1, none⟩ = _ from ?_); unfold World.cell?; dsimp only; rw [hn]; rfl
 | 2, hj => cases hj; refine (show World.cell? _ ⟨w.heap.size, 2, none⟩ = _ from ?_); unfold World.cell?; dsimp only; rw [hn]; rfl
 | 3, hj => cases hj; refine (show World.cell? _ ⟨w.heap.size, 3, none⟩ = _ from ?_); unfold World.cell?; dsimp only; rw [hn]; rfl
 | j + 4, hj => simp [encCV] at hj
theorem apC_grow {A B : Code} {w0 : World} {fn : FuncId} {sv : Value} {Bs l D : Nat} {ss : List Cap} {W W' : World} (h : ApC A B w0 fn sv Bs l D ss W) (hg : W.grownBy W' none) : ApC A B w0 fn sv Bs l D ss W' := by
 obtain ⟨v, hv, hr, hn⟩ := h.box
 have hk : ∀ {k : Nat} {o : Go.Obj}, W.heap[k]? = some o → W'.heap[k]? = some o := fun {k o} e => (hg.block k (Array.getElem?_eq_some_iff.1 e).1 (by simp)).trans e
 exact ⟨⟨v, hk hv, ownsRow_abides_a hr hg (fun r e => by cases e), hn⟩, hk h.L, hk h.K, h.below.grown hg h.below.size (fun k e => by cases e)⟩
set_option maxRecDepth 100000 in
set_option maxHeartbeats 2000000 in
theorem apC_yield {A B : Code} (hAB : (Tryz.f164.body).bind rfOf = some (A, B)) (F : Fence) (m : Nat) (w0 : World) (fn : FuncId) (hfn : F.fn fn) (sv : Value) (Bs l D : Nat) (hBl : Bs ≠ l) (hDl : D ≠ l) (hDB : D ≠ Bs) (h0B : w0.heap.size ≤ Bs) (h0l : w0.heap.size ≤ l)
 (N : Nat) (hN : N ≤ maxLen) (hNb : N * 32 ≤ 140737488355328) (ss : List Cap) (x : Cap) (W : World) (h : ApC A B w0 fn sv Bs l D ss W) (hlen : ss.length < N) :
 YieldAt F m Tryz.prog l #[vC x] W fun e W' => e = .returned (.bool true) ∧ ApC A B w0 fn sv Bs l D (ss ++ [x]) W' := by
 have u32 := Tryz.underlying45
 obtain ⟨i0, hi, hz0, hz1, hz2⟩ : ∃ i0, Tryz.prog.info? 53 = some i0 ∧ i0.zero = some (Value.agg #[.int .i64 0, .int .i64 0, .int .i64 0, .int .i64 0]) ∧ i0.size = 4 ∧ i0.bytes = 32 := ⟨_, rfl, by kernel_rfl, by kernel_rfl, by kernel_rfl⟩
 have hne : (45 : Nat) ≠ 53 := by decide
 obtain ⟨v, hv, hrow, _⟩ := h.box
 refine ⟨fn, #[.slice none 0 0, sv, .pointer (some ⟨Bs, 0, none⟩), undef, .slice none 0 0, undef, sv, vC x, undef, undef, undef, undef, undef], A, B, by simpa [apRec] using run_yield (P := Tryz.prog) (args := #[vC x]) h.L rfl, roundIn_of_wpIn hfn ?_⟩
 have hl : l < W.heap.size := (Array.getElem?_eq_some_iff.1 h.L).1
 obtain ⟨Wa, hWa⟩ : ∃ Wa, W.alloc (.cells #[.int .i64 x.job, .int .i64 x.object, .int .i64 x.kind, .int .i64 x.auth] 53) = Wa := ⟨_, rfl⟩
 have hga : W.grownBy Wa none := by rw [← hWa]; exact grown_alloc _ _
 have ha := apC_grow h hga
 have hnA : Wa.heap[W.heap.size]? = some (.cells #[.int .i64 x.job, .int .i64 x.object, .int .i64 x.kind, .int .i64 x.auth] 53 (0, 0)) := by rw [← hWa]; exact World.alloc_heap_new W _
 have hka : ∀ {k : Nat} {o : Go.Obj}, W.heap[k]? = some o → Wa.heap[k]? = some o := fun {k o} e => (hga.block k (Array.getElem?_eq_some_iff.1 e).1 (by simp)).trans e
 have hva := hka hv
 have hrowa : Wa.ownsRow w0.heap.size 53 4 v ss.length (flC ss) := ownsRow_abides_a hrow hga (fun r e => by cases e)
 have hbr := run_beginRound (P := Tryz.prog) ha.L rfl
 obtain ⟨W2, hW2⟩ : ∃ W2, Wa.putObj l (.loop { apRec A B fn sv Bs D .ready none with state := .busy }) = W2 := ⟨_, rfl⟩
 rw [hW2] at hbr
 have hlA : l < Wa.heap.size := (Array.getElem?_eq_some_iff.1 ha.L).1
 have hg2 : Wa.grownBy W2 (some l) := by rw [← hW2]; exact grownBy_putObj_a _ _ _
 have hv2 : W2.heap[Bs]? = some (.cells #[v] 45 (0, 0)) := by rw [← hW2]; exact (World.putObj_heap_other hBl).trans hva
 have hK2 : W2.heap[D]? = some (.deferred (some [])) := by rw [← hW2]; exact (World.putObj_heap_other hDl).trans ha.K
 have hL2 : W2.heap[l]? = some (.loop { apRec A B fn sv Bs D .ready none with state := .busy }) := by rw [← hW2]; exact World.putObj_heap_same hlA
 have hn2 : W2.heap[W.heap.size]? = some (.cells #[.int .i64 x.job, .int .i64 x.object, .int .i64 x.kind, .int .i64 x.auth] 53 (0, 0)) := by rw [← hW2]; exact (World.putObj_heap_other (by omega)).trans hnA
 have hrow2 : W2.ownsRow w0.heap.size 53 4 v ss.length (flC ss) := hrowa.kept hg2 (ownsRow_ne_a hrowa ha.L (fun cur e => by cases e))
 have hb2 : Below w0.heap.size w0 W2 := ha.below.grown hg2 ha.below.size (fun k e => by cases e; exact h0l)
 clear hW2
 obtain ⟨hc2, hf2⟩ := cell_of_box_a hv2
 have hBlt : Bs < W2.heap.size := (Array.getElem?_eq_some_iff.1 hv2).1
 have hl2 : l < W2.heap.size := (Array.getElem?_eq_some_iff.1 hL2).1
 have hDlt : D < W2.heap.size := (Array.getElem?_eq_some_iff.1 hK2).1
 have x0 : W2.cell? ⟨W.heap.size, 0, none⟩ = some (.int .i64 x.job) := by simp [World.cell?, hn2]
 have x1 : W2.cell? ⟨W.heap.size, 1, none⟩ = some (.int .i64 x.object) := by simp [World.cell?, hn2]
 have x2 : W2.cell? ⟨W.heap.size, 2, none⟩ = some (.int .i64 x.kind) := by simp [World.cell?, hn2]
 have x3 : W2.cell? ⟨W.heap.size, 3, none⟩ = some (.int .i64 x.auth) := by simp [World.cell?, hn2]
 have ne_of : ∀ {j : Nat} {o : Go.Obj}, W2.heap[j]? = some o → (∀ cur, o ≠ .cells cur 53 (0, 0)) → some j ≠ v.ownBlock := fun hj hno => by
  rcases ownsRow_ne_a hrow2 hj hno with e | e
  · rw [e]; simp
  · exact fun e' => e e'.symm
 clear hnA hn2
 dsimp only [Tryz.f164, rfOf, Option.bind] at hAB
 obtain ⟨rfl, rfl⟩ := Prod.mk.inj (Option.some.inj hAB)
 unfold vC
 gi_wp2_with (first
  | (gi_at_builtin; refine wpListIn_append_own _ rfl _ _ 45 rfl w0.heap.size 53 i0 (Value.agg #[.int .i64 0, .int .i64 0, .int .i64 0, .int .i64 0]) 4 32 u32 hi hz0 hz1 hz2 rfl (by decide) _ _ _ rfl (hrow2.alloc _) ⟨W2.heap.size, 0, none⟩ 1 1 (encCV x) rfl rfl (cell_new _ _ _) (encCV_one x) (by omega) (by omega) (by have := hb2.size; simp; omega) ?_; intro v' w3 hown' hg3 hnil3
     have hv3 : w3.heap[Bs]? = some (.cells #[v] 45 (0, 0)) := (hg3.block Bs (by simp; omega) (ne_of hv2 (fun cur e => by cases e))).trans ((Below.heap_alloc _ _ Bs hBlt).trans hv2)
     obtain ⟨hc3, hf3⟩ := cell_of_box_a hv3
     obtain ⟨g', cap', cur', rfl, hbase', hgb', hr1, hr2, hr3, hr4⟩ : ∃ g' cap' cur', v' = .slice (some ⟨g', 0, none⟩) (ss.length + 1) cap' ∧ w0.heap.size ≤ g' ∧ w3.heap[g']? = some (.cells cur' 53 (0, 0)) ∧ ss.length + 1 ≤ cap' ∧ cap' ≤ maxLen ∧ cur'.size = cap' * 4 ∧ cur'.toList.take ((ss.length + 1) * 4) = flC ss ++ encCV x := by
      rcases hown'.2 with ⟨_, h0⟩ | h'
      · exact absurd h0 (by omega)
      · exact h'
     go_frame)
  | gi_round_op_a)
 clear hWa
 have hg3' : (W2.alloc (.cells #[.int .i64 x.job, .int .i64 x.object, .int .i64 x.kind, .int .i64 x.auth] 53)).grownBy w3 v.ownBlock := hg3
 have hL3 : w3.heap[l]? = some (.loop { apRec _ _ fn sv Bs D .ready none with state := .busy }) := (hg3'.block l (by simp; omega) (ne_of hL2 (fun cur e => by cases e))).trans ((Below.heap_alloc _ _ l hl2).trans hL2)
 have hK3 : w3.heap[D]? = some (.deferred (some [])) := (hg3'.block D (by simp; omega) (ne_of hK2 (fun cur e => by cases e))).trans ((Below.heap_alloc _ _ D hDlt).trans hK2)
 obtain ⟨w4, hw4⟩ : ∃ w4, w3.setCell ⟨Bs, 0, none⟩ (.slice (some ⟨g', 0, none⟩) (ss.length + 1) cap') = w4 := ⟨_, rfl⟩
 rw [hw4]
 have hg4 : w3.grownBy w4 (some Bs) := by rw [← hw4]; exact grownBy_setCell0_a _ _ _
 have hv4 : w4.heap[Bs]? = some (.cells #[.slice (some ⟨g', 0, none⟩) (ss.length + 1) cap'] 45 (0, 0)) := by rw [← hw4]; exact heap_setCell_box_a _ hv3
 have hL4 : w4.heap[l]? = some (.loop { apRec _ _ fn sv Bs D .ready none with state := .busy }) := (hg4.block l (Array.getElem?_eq_some_iff.1 hL3).1 (fun e => hBl (by cases e; rfl))).trans hL3
 have hK4 : w4.heap[D]? = some (.deferred (some [])) := (hg4.block D (Array.getElem?_eq_some_iff.1 hK3).1 (fun e => hDB (by cases e; rfl))).trans hK3
 have hrow4 := hown'.kept hg4 (ownsRow_ne_a hown' hv3 (fun cur e => by cases e))
 have hl4 : l < w4.heap.size := (Array.getElem?_eq_some_iff.1 hL4).1
 have hb3 : Below w0.heap.size w0 w3 := (hb2.alloc hb2.size _).grown hg3' (by have := hb2.size; simp; omega) (fun k e => (hrow2.lt k e).1)
 have hb4 : Below w0.heap.size w0 w4 := hb3.grown hg4 hb3.size (fun k e => by cases e; exact h0B)
 clear hw4
 refine ⟨_, _, run_endRound none hL4, rfl, ⟨⟨_, (World.putObj_heap_other hBl).trans hv4, ?_, by simp⟩, World.putObj_heap_same hl4, (World.putObj_heap_other hDl).trans hK4, hb4.grown (grownBy_putObj_a _ _ _) hb4.size (fun k e => by cases e; exact h0l)⟩⟩
 have e : ∀ o' : Go.Obj, (w4.putObj l o').ownsRow w0.heap.size 53 4 (.slice (some ⟨g', 0, none⟩) (ss.length + 1) cap') (ss.length + 1) (flC ss ++ encCV x) := fun o' => hrow4.kept (grownBy_putObj_a w4 l o') (ownsRow_ne_a hrow4 hL4 (fun cur e => by cases e))
 rw [flC_snoc, List.length_append]
 exact e _
set_option maxRecDepth 100000 in
set_option maxHeartbeats 2000000 in
theorem appendC_in (F : Fence) (n : Nat) (h164 : F.fn 164) (h130 : F.fn 130) (hro : F.round = none) (hn : 2 ≤ n) (w : World) (Bs bo cap : Nat) (A' : Option Addr) (zs : List Cap) (hN : zs.length ≤ maxLen) (hNb : zs.length * 32 ≤ 140737488351232) (hBl : Bs < w.heap.size)
 (hBs : w.cell? ⟨Bs, bo, none⟩ = some (.slice A' zs.length cap))
 (hA : SlC w.heap.size w A' zs) :
 CallsIn F n Tryz.prog 164 #[.slice none 0 0, .func (.func 130) #[] #[.pointer (some ⟨Bs, bo, none⟩)]] w fun e w' => ∃ v : Value, e = .returned v ∧ w'.ownsRow w.heap.size 53 4 v zs.length (flC zs) ∧ (v = .slice none 0 0 ↔ zs = []) ∧ Below w.heap.size w w' := by
 have h1 : 1 ≤ n := by omega
 have eg : ∀ args w, (callFunc 130 args).run Tryz.prog w = .ok (.enter 130 args) w := enters_of Tryz.func130 (by kernel_rfl) rfl
 obtain ⟨A, B, hAB⟩ : ∃ A B, (Tryz.f164.body).bind rfOf = some (A, B) := ⟨_, _, rfl⟩
 have hAB' := hAB
 dsimp only [Tryz.f164, rfOf, Option.bind] at hAB'
 obtain ⟨e1, e2⟩ := Prod.mk.inj (Option.some.inj hAB')
 clear hAB'
 refine callsIn_of_wp_marks Tryz.func164 rfl h164 ?_ hro
 simp only [Tryz.ntmps164, List.size_toArray, List.length_cons, List.length_nil, Nat.reduceAdd, Nat.reduceSub, Array.replicate_succ, Array.replicate_zero, List.push_toArray, List.append_toArray, List.nil_append, List.cons_append]
 gi_wp2
 refine wpIn_rangeFunc ?_
 intro fn hfn
 rw [hro, e1, e2]
 obtain ⟨W0, hW0⟩ : ∃ W0, w.alloc (.cells #[.slice none 0 0] 45) = W0 := ⟨_, rfl⟩
 have hs0 : W0.heap.size = w.heap.size + 1 := by rw [← hW0]; simp
 have hv0 : W0.heap[w.heap.size]? = some (.cells #[.slice none 0 0] 45 (0, 0)) := by rw [← hW0]; exact World.alloc_heap_new w _
 have hb0 : Below w.heap.size w W0 := by rw [← hW0]; exact (Below.refl _ w).alloc (Nat.le_refl _) _
 rw [hW0]
 obtain ⟨W1, hW1⟩ : ∃ W1, (W0.alloc (.deferred (some []))).alloc (.loop (apRec A B fn (.func (.func 130) #[] #[.pointer (some ⟨Bs, bo, none⟩)]) w.heap.size W0.heap.size .ready none)) = W1 := ⟨_, rfl⟩
 have hold : ∀ k, k < W0.heap.size → W1.heap[k]? = W0.heap[k]? := fun k hk => by
  rw [← hW1]; exact (Below.heap_alloc _ _ k (by simp; omega)).trans (Below.heap_alloc _ _ k hk)
 have hb1 : Below w.heap.size w W1 := by rw [← hW1]; exact (hb0.alloc hb0.size _).alloc (by have := hb0.size; simp; omega) _
 have hs1 : W1.heap.size = W0.heap.size + 2 := by rw [← hW1]; simp
 have hM : ApC A B w fn (.func (.func 130) #[] #[.pointer (some ⟨Bs, bo, none⟩)]) w.heap.size (W0.heap.size + 1) W0.heap.size [] W1 :=
  ⟨⟨_, (hold w.heap.size (by omega)).trans hv0, ⟨rfl, .inl ⟨rfl, rfl⟩⟩, by simp⟩,
   by rw [← hW1]; have := World.alloc_heap_new (W0.alloc (.deferred (some []))) (.loop (apRec A B fn (.func (.func 130) #[] #[.pointer (some ⟨Bs, bo, none⟩)]) w.heap.size W0.heap.size .ready none)); rwa [World.size_alloc] at this,
   by rw [← hW1]; exact (Below.heap_alloc _ _ _ (by simp)).trans (World.alloc_heap_new W0 _), hb1⟩
 refine ⟨W0.heap.size + 1, [{ target := .collected W0.heap.size, args := #[] }], W1, { target := .fn (.func 130) #[.pointer (some ⟨Bs, bo, none⟩)], args := #[.func (.yield (W0.heap.size + 1)) #[] #[]] }, W1, 130,
  #[.func (.yield (W0.heap.size + 1)) #[] #[]] ++ #[.pointer (some ⟨Bs, bo, none⟩)], W1, ?_, ?_, ?_, ?_, fun _ => h1, ?_⟩
 · rw [← hW1]; exact run_enterLoop_outer _ _ _ _ _
 · simp [resolve, go_sem]
 · intro f' hf'; simp [Target.leads] at hf'; subst hf'; exact h130
 · simp [invoke, go_sem, eg]
 · have hcell : ∀ {a : Addr} {v : Value}, a.block < w.heap.size → w.cell? a = some v → W1.cell? a = some v := fun {a v} ha hv => (hb1.cell ha).trans hv
   refine (valA_in F (n - 1) h130 hro (by omega) (W0.heap.size + 1) Bs bo cap w.heap.size A' zs hNb (ApC A B w fn (.func (.func 130) #[] #[.pointer (some ⟨Bs, bo, none⟩)]) w.heap.size (W0.heap.size + 1) W0.heap.size) W1
    (fun pre W' hJ => ?_) (fun s W1 W2 hJ hg => apC_grow hJ hg)
    (fun pre x W hJ hl => apC_yield hAB F (n - 1 - 1) w fn hfn _ w.heap.size (W0.heap.size + 1) W0.heap.size (by omega) (by omega) (by omega) (Nat.le_refl _) (by omega) zs.length hN (by omega) pre x W hJ hl)
    (hcell (a := ⟨Bs, bo, none⟩) hBl hBs) (hA.imp id fun ⟨b, off, h1, hb, hc⟩ => ⟨b, off, h1, hb, fun i x hx j v hv => hcell (a := ⟨b, off + i * 4 + j, none⟩) hb (hc i x hx j v hv)⟩) hM).mono ?_
   · exact fun a ha => (hJ.below.cell ha).trans (hb1.cell ha).symm
   rintro e W2 ⟨⟨v0, rfl⟩, h2⟩
   obtain ⟨v, hv, hrow, hnil⟩ := h2.box
   have hend := run_endLoop (P := Tryz.prog) h2.L (by simp [apRec])
   obtain ⟨W3, hW3⟩ : ∃ W3, W2.putObj (W0.heap.size + 1) (.loop { apRec A B fn (.func (.func 130) #[] #[.pointer (some ⟨Bs, bo, none⟩)]) w.heap.size W0.heap.size .ready none with state := .exhausted }) = W3 := ⟨_, rfl⟩
   rw [hW3] at hend
   have hg3 : W2.grownBy W3 (some (W0.heap.size + 1)) := by rw [← hW3]; exact grownBy_putObj_a _ _ _
   have hv3 : W3.heap[w.heap.size]? = some (.cells #[v] 45 (0, 0)) := by rw [← hW3]; exact (World.putObj_heap_other (by omega)).trans hv
   have hK3 : W3.heap[W0.heap.size]? = some (.deferred (some [])) := by rw [← hW3]; exact (World.putObj_heap_other (by omega)).trans h2.K
   have hrow3 := hrow.kept hg3 (ownsRow_ne_a hrow h2.L (fun cur e => by cases e))
   have hb3 : Below w.heap.size w W3 := h2.below.grown hg3 h2.below.size (fun k e => by cases e; omega)
   obtain ⟨hc3, hf3⟩ := cell_of_box_a hv3
   clear hW3
   refine ⟨none, W3, hend, ?_⟩
   gi_wp2
   rw [← hs0]
   refine ⟨by simp, .inl ⟨_, _, rfl, run_takeDeferred hK3, ?_⟩⟩
   exact ⟨_, results_tmp rfl _ _ _, v, rfl, hrow3.kept (grownBy_putObj_a _ _ _) (ownsRow_ne_a hrow3 hK3 (fun cur e => by cases e)), hnil, hb3.grown (grownBy_putObj_a _ _ _) hb3.size (fun k e => by cases e; omega)⟩
set_option maxHeartbeats 1000000 in
theorem collectC_in (F : Fence) (n : Nat) (h128 : F.fn 128) (h164 : F.fn 164) (h130 : F.fn 130) (hro : F.round = none) (hn : 3 ≤ n) (w : World) (Bs bo cap : Nat) (A' : Option Addr) (zs : List Cap) (hN : zs.length ≤ maxLen) (hNb : zs.length * 32 ≤ 140737488351232) (hBl : Bs < w.heap.size)
 (hBs : w.cell? ⟨Bs, bo, none⟩ = some (.slice A' zs.length cap))
 (hA : SlC w.heap.size w A' zs) :
 CallsIn F n Tryz.prog 128 #[.func (.func 130) #[] #[.pointer (some ⟨Bs, bo, none⟩)]] w fun e w' => ∃ v : Value, e = .returned v ∧ w'.ownsRow w.heap.size 53 4 v zs.length (flC zs) ∧ (v = .slice none 0 0 ↔ zs = []) ∧ Below w.heap.size w w' := by
 have h1 : 1 ≤ n := by omega
 have e164 : ∀ args w, (callFunc 164 args).run Tryz.prog w = .ok (.enter 164 args) w := enters_of Tryz.func164 (by kernel_rfl) rfl
 refine callsIn_of_wp Tryz.func128 rfl h128 ?_ hro
 simp only [Tryz.ntmps128, List.size_toArray, List.length_cons, List.length_nil, Nat.reduceAdd, Nat.reduceSub, Array.replicate_succ, Array.replicate_zero, List.push_toArray, List.append_toArray, List.nil_append, List.cons_append]
 gi_wp2_with (gi_at_fn 164; refine (appendC_in F (n - 1) h164 h130 hro (by omega) w Bs bo cap A' zs hN hNb hBl hBs hA).mono ?_; rintro e w' ⟨v, rfl, hrow, hnil, hb'⟩)
 go_ret
 exact ⟨v, rfl, hrow, hnil, hb'⟩
theorem collectC (w : World) (Bs bo cap : Nat) (A' : Option Addr) (zs : List Cap) (hN : zs.length ≤ 1000000) (hBl : Bs < w.heap.size)
 (hBs : w.cell? ⟨Bs, bo, none⟩ = some (.slice A' zs.length cap))
 (hA : SlC w.heap.size w A' zs) :
 Calls Tryz.prog 128 #[.func (.func 130) #[] #[.pointer (some ⟨Bs, bo, none⟩)]] w fun e w' => ∃ v : Value, e = .returned v ∧ w'.ownsRow w.heap.size 53 4 v zs.length (flC zs) ∧ (v = .slice none 0 0 ↔ zs = []) ∧ Below w.heap.size w w' :=
 (collectC_in Fence.wide 3 trivial trivial trivial rfl (Nat.le_refl _) w Bs bo cap A' zs (Nat.le_trans hN (by decide)) (by omega) hBl hBs hA).calls fun k d hd => by cases hd
end Go.Proofs.YtbhgehhmjpipiaaGreatDoor.C12
namespace Go.Proofs.YtbhgehhmjpipiaaGreatDoor.C12
open Go Go.Proofs Go.Proofs.YtbhgehhmjpipiaaGreatDoor.Ab Go.Proofs.YtbhgehhmjpipiaaGreatDoor.C10 Go.RowKit
theorem goes128 : goes Tryz.prog 128 = true := by kernel_rfl
theorem values_of {G : Gh} {w : World} {l : List Cap} {v : Value} (hprlt : ∀ b o, G.pr b o → b < w.heap.size) (h : VRel G w (.fn 130 [.ptr [.sl (l.map encCap)]]) v) :
 ∃ Bs bo cap A, v = .func (.func 130) #[] #[.pointer (some ⟨Bs, bo, none⟩)] ∧ Bs < w.heap.size ∧ w.cell? ⟨Bs, bo, none⟩ = some (.slice A l.length cap) ∧ SlC w.heap.size w A l := by
 cases h with
 | fn _ _ cb hn hp hr =>
 have hcb : ∃ p, cb = #[p] := by
  match cb, hn with
  | ⟨[p]⟩, _ => exact ⟨p, rfl⟩
 obtain ⟨p, rfl⟩ := hcb
 have rp := hr 0 _ p rfl rfl
 cases rp with
 | ptr _ Bs bo V hpP hcell hpr hV =>
 have c0 := hcell 0 _ rfl
 have p0 := hprlt _ _ (hpr 0 _ rfl)
 have rV := hV 0 _ rfl
 rw [Nat.add_zero] at c0
 generalize V 0 = sv at c0 rV
 obtain ⟨rows, hrows⟩ : ∃ rows, rows = l.map encCap := ⟨_, rfl⟩
 rw [← hrows] at rV
 have hlen : rows.length = l.length := by rw [hrows, List.length_map]
 cases rV with
 | sl0 A c =>
   have hl : l.length = 0 := by rw [← hlen]; rfl
   refine ⟨Bs, bo, c, A, rfl, p0, by rw [hl]; exact c0, .inl (List.eq_nil_of_length_eq_zero hl)⟩
 | sl _ b o c esz V' hcc hs hpp hcell' hpr' hV' =>
   refine ⟨Bs, bo, c, some ⟨b, o, none⟩, rfl, p0, by rw [← hlen]; exact c0, ?_⟩
   rcases Nat.eq_zero_or_pos l.length with h0 | h0
   · exact .inl (List.eq_nil_of_length_eq_zero h0)
   have hrow : ∀ i x, l[i]? = some x → rows[i]? = some (encCap x) := fun i x hx => by rw [hrows, List.getElem?_map, hx]; rfl
   have hx0 : l[0]? = some l[0] := List.getElem?_eq_getElem h0
   have he : esz = 4 := (hs _ (List.mem_of_getElem? (hrow 0 _ hx0))).symm.trans rfl |>.symm ▸ rfl
   subst he
   have hb : b < w.heap.size := hprlt _ _ (hpr' 0 0 _ (.int .i64 l[0].job) (hrow 0 _ hx0) rfl)
   refine .inr ⟨b, o, rfl, hb, fun i x hx j u hu => ?_⟩
   have hj : j < 4 := by have := (List.getElem?_eq_some_iff.1 hu).1; simpa [encCV] using this
   have ha : ∃ a, (encCap x)[j]? = some a := ⟨(encCap x)[j]'(by simpa [encCap] using hj), List.getElem?_eq_getElem _⟩
   obtain ⟨a, ha⟩ := ha
   have := rel_encCV ha (hV' i j _ a (hrow i x hx) ha)
   rw [hu] at this
   rw [hcell' i j _ a (hrow i x hx) ha, ← this]
theorem CollectM (l : List Cap) (h0 : 0 < l.length) (hl : l.length ≤ 1000000) :
 AnsM Tryz.prog 128 9 [] [.fn 130 [.ptr [.sl (l.map encCap)]]] (.ref 9 1) [(9, .obj 1 53 4 false true (l.map encCap))] := by
 refine ⟨goes128, fun w G vs hsz hvs hprlt hgl hobj hsep => ?_⟩
 have hv : ∃ v0, vs = #[v0] := by
  match vs, hsz with
  | ⟨[x]⟩, _ => exact ⟨x, rfl⟩
 obtain ⟨v0, rfl⟩ := hv
 obtain ⟨Bs, bo, cap, A, rfl, hBl, hBs, hA⟩ := values_of hprlt (hvs 0 _ _ rfl rfl)
 have hno : ∀ t, G.cnt t = 0 ∧ G.ob t = none := fun t => by
  have h := hobj t
  have hg : (startM 9 [.fn 130 [.ptr [.sl (l.map encCap)]]] []).go t = .any := by
   unfold startM Env.go
   simp only [List.append_nil, List.getD_eq_getElem?_getD, List.getElem?_replicate]
   split <;> rfl
  rw [hg] at h; exact h
 refine Calls.mono (collectC w Bs bo cap A l hl hBl hBs hA) fun e w' ⟨v, he, hrow, hnil, hb⟩ => ?_
 obtain ⟨hfl, hrow⟩ := hrow
 rcases hrow with ⟨_, hz⟩ | ⟨g, cp, cur, rfl, hbase, hgb, k1, k2, k3, k4⟩
 · omega
 have hnopr : ∀ o, ¬ G.pr g o := fun o hp => by have := hprlt g o hp; omega
 have hcell : ∀ i j x a, (l.map encCap)[i]? = some x → x[j]? = some a → ∀ G' w2, ∃ u, cur[i * 4 + j]? = some u ∧ VRel G' w2 a u := fun i j x a hx ha G' w2 => by
  rw [List.getElem?_map] at hx
  cases hi : l[i]? with
  | none => rw [hi] at hx; cases hx
  | some y =>
    rw [hi] at hx; cases hx
    have hj : j < 4 := by have := (List.getElem?_eq_some_iff.1 ha).1; simpa [encCap] using this
    have hu : ∃ u, (encCV y)[j]? = some u := ⟨(encCV y)[j]'(by simpa [encCV] using hj), List.getElem?_eq_getElem _⟩
    obtain ⟨u, hu⟩ := hu
    have hil : i < l.length := (List.getElem?_eq_some_iff.1 hi).1
    have hf := flC_get l i j y u hi hu
    rw [← k4, List.getElem?_take, if_pos (by omega), Array.getElem?_toList] at hf
    exact ⟨u, hf, encCV_rel G' w2 ha hu⟩
 refine ⟨_, ⟨G.pr, fun t => if t = 9 then some ⟨1, some ⟨g, 0, none⟩, l.length, cp, 4⟩ else G.ob t, fun t => if t = 9 then 1 else G.cnt t⟩, he, ?_, ⟨fun _ _ h => h, fun t => ?_, fun t o ho => ?_, fun b o u hp hc => ?_⟩,
  fun b o _ _ hp => hp, fun b o hp => Nat.lt_of_lt_of_le (hprlt b o hp) hb.size, ⟨hb.os, hb.tape, hb.output, fun q => q.elim, hb.size, fun k hk => hb.block k (Ab.Bs.lt_of hk)⟩, fun p hp => ?_, ?_⟩
 · refine .ref _ _ _ (by simp) rfl fun o ho _ => ?_
   simp only [if_pos] at ho
   cases ho
   rfl
 · show G.cnt t ≤ if t = 9 then 1 else G.cnt t
   split
   · rw [(hno t).1]; decide
   · exact Nat.le_refl _
 · have ho' : (if t = 9 then some ⟨1, some ⟨g, 0, none⟩, l.length, cp, 4⟩ else G.ob t) = some o := ho
   by_cases h : t = 9
   · rw [if_pos h] at ho'; cases ho'
     exact .inl (by rw [(hno t).1]; show 0 < 1; decide)
   · rw [if_neg h, (hno t).2] at ho'; cases ho'
 · have hlt : b < w.heap.size := hprlt b o hp
   exact (hb.cell (p := ⟨b, o, none⟩) hlt).trans hc
 · rw [List.mem_singleton] at hp
   subst hp
   refine ⟨by simp, fun _ x hx a ha => ?_, fun x hx => ?_, ⟨1, some ⟨g, 0, none⟩, l.length, cp, 4⟩, by simp, rfl, by rw [List.length_map], rfl, .inr ⟨g, cur, rfl, .inl hbase, hgb, by rw [List.length_map]; exact k1, k2, k3, by show 0 < cp; omega, fun i j x a hx ha => hcell i j x a hx ha _ _, fun o ho => absurd ho (hnopr o)⟩⟩
   · obtain ⟨y, _, rfl⟩ := List.mem_map.1 hx
     rw [encCap] at ha
     simp only [List.mem_cons, List.not_mem_nil, or_false] at ha
     rcases ha with rfl | rfl | rfl | rfl <;> rfl
   · obtain ⟨y, _, rfl⟩ := List.mem_map.1 hx
     rfl
 · intro t t' o o' hne ho ho' hc hc'
   have ho1 : (if t = 9 then some ⟨1, some ⟨g, 0, none⟩, l.length, cp, 4⟩ else G.ob t) = some o := ho
   have ho2 : (if t' = 9 then some ⟨1, some ⟨g, 0, none⟩, l.length, cp, 4⟩ else G.ob t') = some o' := ho'
   by_cases h : t = 9
   · have h' : ¬ t' = 9 := fun e => hne (h.trans e.symm)
     rw [if_neg h', (hno t').2] at ho2; cases ho2
   · rw [if_neg h, (hno t).2] at ho1; cases ho1
theorem Collect_nil : Ans Tryz.prog 128 [.fn 130 [.ptr [.sl []]]] .nils := by
 refine ⟨goes128, rfl, fun w Pr vs hs hr hlt hgl => ?_⟩
 have hv : ∃ v0, vs = #[v0] := by
  match vs, hs with
  | ⟨[x]⟩, _ => exact ⟨x, rfl⟩
 obtain ⟨v0, rfl⟩ := hv
 obtain ⟨Bs, bo, cap, A, rfl, hBl, hBs, hA⟩ := values_of (l := []) hlt (hr 0 _ _ rfl rfl)
 refine Calls.mono (collectC w Bs bo cap A [] (by simp) hBl hBs hA) fun e w' ⟨v, he, hrow, hnil, hb⟩ => ?_
 have : v = .slice none 0 0 := hnil.2 rfl
 subst this
 exact ⟨_, Pr, he, .nils, fun _ _ h => h, fun _ _ _ h => h, fun b o h => Nat.lt_of_lt_of_le (hlt b o h) hb.size, ⟨hb, fun q => q.elim⟩⟩
end Go.Proofs.YtbhgehhmjpipiaaGreatDoor.C12
