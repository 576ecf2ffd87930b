/- Chapter 12: slices.SortFunc at capabilities, by the shelf's contract. -/
import Derived.Test.YtbhgehhmjpipiaaGreatDoorV2
import Derived.Shelf.SlSortCmp.WholeK
import Derived.Test.YtbhgehhmjpipiaaGreatDoorD0
import Derived.Shelf.SlSortCmp.NoneTotal
set_option linter.unusedSimpArgs false
set_option linter.unusedVariables false
namespace Go.Proofs.YtbhgehhmjpipiaaGreatDoor.C12
open Go Go.Proofs Go.Proofs.YtbhgehhmjpipiaaGreatDoor.Ab Go.Proofs.YtbhgehhmjpipiaaGreatDoor.C10
set_option maxRecDepth 100000
def sortRen : Go.Shelf.Ren where
 f := fun x => match x with
  | 6 => 129
  | 14 => 165
  | 15 => 166
  | 28 => 200
  | 29 => 201
  | 20 => 192
  | 21 => 193
  | 22 => 194
  | 23 => 195
  | 24 => 196
  | 25 => 197
  | 26 => 198
  | 27 => 199
  | 46 => 220
  | 47 => 221
  | 48 => 222
  | 49 => 223
  | 50 => 224
  | 57 => 233
  | n => n
 t := fun x => match x with
  | 22 => 45
  | 24 => 53
  | 25 => 156
  | 3 => 3
  | 39 => 228
  | 0 => 0
  | 53 => 264
  | 55 => 266
  | 4 => 4
  | 46 => 257
  | 45 => 256
  | 50 => 261
  | 5 => 5
  | 9 => 9
  | 66 => 275
  | 70 => 279
  | 76 => 289
  | 77 => 78
  | n => n
 g := fun n => n
theorem sortLays : SlLaysF0.n6 Tryz.prog sortRen where
 mixed := mixed
 f6 := ⟨Tryz.f129.name, by kernel_rfl, Tryz.func129.trans (congrArg some (by kernel_rfl))⟩
 f14 := ⟨Tryz.f165.name, by kernel_rfl, Tryz.func165.trans (congrArg some (by kernel_rfl))⟩
 f15 := Tryz.func166.trans (congrArg some (by kernel_rfl))
 f20 := ⟨Tryz.f192.name, by kernel_rfl, Tryz.func192.trans (congrArg some (by kernel_rfl))⟩
 f21 := ⟨Tryz.f193.name, by kernel_rfl, Tryz.func193.trans (congrArg some (by kernel_rfl))⟩
 f22 := ⟨Tryz.f194.name, by kernel_rfl, Tryz.func194.trans (congrArg some (by kernel_rfl))⟩
 f23 := ⟨Tryz.f195.name, by kernel_rfl, Tryz.func195.trans (congrArg some (by kernel_rfl))⟩
 f24 := ⟨Tryz.f196.name, by kernel_rfl, Tryz.func196.trans (congrArg some (by kernel_rfl))⟩
 f25 := ⟨Tryz.f197.name, by kernel_rfl, Tryz.func197.trans (congrArg some (by kernel_rfl))⟩
 f26 := ⟨Tryz.f198.name, by kernel_rfl, Tryz.func198.trans (congrArg some (by kernel_rfl))⟩
 f27 := ⟨Tryz.f199.name, by kernel_rfl, Tryz.func199.trans (congrArg some (by kernel_rfl))⟩
 f28 := Tryz.func200.trans (congrArg some (by kernel_rfl))
 f29 := Tryz.func201.trans (congrArg some (by kernel_rfl))
 f46 := ⟨Tryz.f220.name, by kernel_rfl, Tryz.func220.trans (congrArg some (by kernel_rfl))⟩
 f47 := Tryz.func221.trans (congrArg some (by kernel_rfl))
 f48 := Tryz.func222.trans (congrArg some (by kernel_rfl))
 f49 := ⟨Tryz.f223.name, by kernel_rfl, Tryz.func223.trans (congrArg some (by kernel_rfl))⟩
 f50 := ⟨Tryz.f224.name, by kernel_rfl, Tryz.func224.trans (congrArg some (by kernel_rfl))⟩
 f57 := ⟨Tryz.f233.name, by kernel_rfl, Tryz.func233.trans (congrArg some (by kernel_rfl))⟩
 t0 := Tryz.underlying0
 a0 := Tryz.isAgg0
 z0 := Tryz.sizeOf0
 v0 := Tryz.zeroValue0
 t3 := Tryz.underlying3
 a3 := Tryz.isAgg3
 z3 := Tryz.sizeOf3
 v3 := Tryz.zeroValue3
 t4 := Tryz.underlying4
 a4 := Tryz.isAgg4
 z4 := Tryz.sizeOf4
 v4 := Tryz.zeroValue4
 t5 := Tryz.underlying5
 a5 := Tryz.isAgg5
 z5 := Tryz.sizeOf5
 v5 := Tryz.zeroValue5
 t9 := Tryz.underlying9
 a9 := Tryz.isAgg9
 z9 := Tryz.sizeOf9
 v9 := Tryz.zeroValue9
 t22 := Tryz.underlying45
 a22 := Tryz.isAgg45
 z22 := Tryz.sizeOf45
 v22 := Tryz.zeroValue45
 t25 := Tryz.underlying156
 a25 := Tryz.isAgg156
 z25 := Tryz.sizeOf156
 v25 := Tryz.zeroValue156
 t39 := Tryz.underlying228
 a39 := Tryz.isAgg228
 z39 := Tryz.sizeOf228
 v39 := Tryz.zeroValue228
 t45 := Tryz.underlying256
 a45 := Tryz.isAgg256
 z45 := Tryz.sizeOf256
 v45 := Tryz.zeroValue256
 t46 := Tryz.underlying257
 a46 := Tryz.isAgg257
 z46 := Tryz.sizeOf257
 v46 := Tryz.zeroValue257
 t50 := Tryz.underlying261
 a50 := Tryz.isAgg261
 z50 := Tryz.sizeOf261
 v50 := Tryz.zeroValue261
 t53 := Tryz.underlying264
 a53 := Tryz.isAgg264
 z53 := Tryz.sizeOf264
 v53 := Tryz.zeroValue264
 t55 := Tryz.underlying266
 a55 := Tryz.isAgg266
 z55 := Tryz.sizeOf266
 v55 := Tryz.zeroValue266
 t66 := Tryz.underlying275
 a66 := Tryz.isAgg275
 z66 := Tryz.sizeOf275
 v66 := Tryz.zeroValue275
 t70 := Tryz.underlying279
 a70 := Tryz.isAgg279
 z70 := Tryz.sizeOf279
 v70 := Tryz.zeroValue279
 t76 := Tryz.underlying289
 a76 := Tryz.isAgg289
 z76 := Tryz.sizeOf289
 v76 := Tryz.zeroValue289
 t77 := Tryz.underlying78
 a77 := Tryz.isAgg78
 z77 := Tryz.sizeOf78
 v77 := Tryz.zeroValue78
abbrev dwT : Inhabited DW := ⟨{ on := True }⟩
theorem grow_of {w w' : World} (h : @BelowD dwT w w') : ∃ q os, w' = Sort.grow (w.drewN q) os := by
 have hb := @BelowD.toBelow dwT _ _ h
 refine ⟨w'.drawn - w.drawn, w'.heap.extract w.heap.size w'.heap.size, ?_⟩
 have hh : w'.heap = w.heap ++ w'.heap.extract w.heap.size w'.heap.size := by
  apply Array.ext_getElem?
  intro k
  by_cases hk : k < w.heap.size
  · rw [hb.block k hk, Array.getElem?_append_left hk]
  · rw [Array.getElem?_append_right (by omega), Array.getElem?_extract]
    have hs := hb.size
    split
    · congr 1; omega
    · rw [Array.getElem?_eq_none (by omega)]
 obtain ⟨h1, t1, d1, o1, u1⟩ := w
 obtain ⟨h2, t2, d2, o2, u2⟩ := w'
 have e1 : t2 = t1 := hb.tape
 have e2 : o2 = o1 := hb.os
 have e3 : u2 = u1 := hb.output
 have e4 : d1 ≤ d2 := @BelowD.dr dwT _ _ h trivial
 subst e1 e2 e3
 simp only [Sort.grow, World.drewN, World.mk.injEq, true_and, and_true] at hh ⊢
 exact ⟨hh, by omega⟩
end Go.Proofs.YtbhgehhmjpipiaaGreatDoor.C12
namespace Go.Proofs.YtbhgehhmjpipiaaGreatDoor.C12
open Go Go.Proofs Go.Proofs.YtbhgehhmjpipiaaGreatDoor.Ab Go.Proofs.YtbhgehhmjpipiaaGreatDoor.C10
set_option maxRecDepth 100000
section
variable {α : Type} [Inhabited α]
def sortG (cf : α → α → Int) (l : List α) : List α := (Sort.pdq (ltOf cf) l.toArray 0 l.length (Lib.bitLen l.length) true true).toList
theorem sortG_perm {cf : α → α → Int} (sw : Sort.SWO (ltOf cf)) (l : List α) : (sortG cf l).Perm l := by
 have h := (Sort.pdq_sorts (ltOf cf) sw l.toArray 0 l.length (Lib.bitLen l.length) true true (Nat.zero_le _) (Nat.le_refl _) (Or.inl rfl)).1
 obtain ⟨h1, _, h3⟩ := h
 have e1 : (l.toArray.extract 0 l.length) = l.toArray := by simp
 rw [e1] at h3
 have e2 : ∀ a : Array α, a.size = l.length → a.extract 0 l.length = a := fun a ha => by rw [← ha]; simp
 rw [e2 _ (by rw [h1]; simp)] at h3
 exact h3
theorem sortG_len {cf : α → α → Int} (sw : Sort.SWO (ltOf cf)) (l : List α) : (sortG cf l).length = l.length := (sortG_perm sw l).length_eq
theorem sortG_sorted {cf : α → α → Int} (sw : Sort.SWO (ltOf cf)) (l : List α) {i j : Nat} (hij : i < j) (hj : j < l.length) : ltOf cf (nth (sortG cf l) j) (nth (sortG cf l) i) = false := by
 have h := (Sort.pdq_sorts (ltOf cf) sw l.toArray 0 l.length (Lib.bitLen l.length) true true (Nat.zero_le _) (Nat.le_refl _) (Or.inl rfl)).2
 have hl := sortG_len sw l
 have e : ∀ k, k < l.length → (Sort.pdq (ltOf cf) l.toArray 0 l.length (Lib.bitLen l.length) true true)[k]! = nth (sortG cf l) k := fun k hk => by
  have hk2 : k < (Sort.pdq (ltOf cf) l.toArray 0 l.length (Lib.bitLen l.length) true true).size := by
   have : (Sort.pdq (ltOf cf) l.toArray 0 l.length (Lib.bitLen l.length) true true).size = (sortG cf l).length := rfl
   omega
  rw [getElem!_pos _ k hk2, nth_eq (by rw [hl]; exact hk)]
  rfl
 have := h i j (Nat.zero_le _) hij hj
 rw [e i (by omega), e j hj] at this
 exact this
theorem cmpLaysG (en : α → Cap) (cf : α → α → Int) (f : Nat) (hcmp : ∀ a b, @Ans dwT Tryz.prog f [.agg (encCap (en a)), .agg (encCap (en b))] (.int .i64 (cf a b))) (blk off size : Nat) (w : World) : CmpLays Tryz.prog f #[] (fun x => encCV (en x)) 4 cf blk off size w := fun m os dk hs x y => by
 have h := (hcmp x y).2.2 (sortWorldK (fun x => encCV (en x)) 4 w blk off m dk os) (fun _ _ => False) #[.agg (encCV (en x)).toArray, .agg (encCV (en y)).toArray] rfl (fun i a v ha hv => by
  match i, ha, hv with
  | 0, ha, hv => cases ha; cases hv; exact agg_encC _ _ (en x)
  | 1, ha, hv => cases ha; cases hv; exact agg_encC _ _ (en y)
  | i + 2, ha, hv => simp at ha) (fun _ _ h => h.elim) (fun _ _ h => by cases h)
 refine Calls.mono h fun e w' ⟨v, Pr', he, hv, _, _, _, hb⟩ => ?_
 cases hv
 exact ⟨he, grow_of hb⟩
theorem SortFuncG (en : α → Cap) (cf : α → α → Int) (sw : Sort.SWO (ltOf cf)) (f : Nat) (hcmp : ∀ a b, @Ans dwT Tryz.prog f [.agg (encCap (en a)), .agg (encCap (en b))] (.int .i64 (cf a b)))
 (eg : ∀ args w, (callFunc f args).run Tryz.prog w = .ok (.enter f args) w) (l : List α) (h0 : 0 < l.length) (hl : l.length ≤ 1000000) :
 AnsM Tryz.prog 129 2 [.obj 1 53 4 false true (l.map fun x => encCap (en x))] [.ref 2 1, .fn f []] (.tup []) [(2, .obj 1 53 4 false true ((sortG cf l).map fun x => encCap (en x)))] := by
 refine ⟨by kernel_rfl, fun w G vs hsz hvs hprlt hgl hobj hsep => ?_⟩
 have hO := hobj 2
 obtain ⟨hcnt, hpu, hes, g, g1, g2, g3, g4, g5⟩ : ObRel G w (fun _ => True) 2 (.obj 1 53 4 false true (l.map fun x => encCap (en x))) := hO
 rw [List.length_map] at g3
 have hv : ∃ v0 v1, vs = #[v0, v1] := by
  match vs, hsz with
  | ⟨[x, y]⟩, _ => exact ⟨x, y, rfl⟩
 obtain ⟨v0, v1, rfl⟩ := hv
 have r0 := hvs 0 _ _ rfl rfl
 have r1 := hvs 1 _ _ rfl rfl
 cases r0 with
 | ref _ _ _ hv1 hv2 hv3 =>
 cases r1 with
 | fn _ _ cb hn hp hr =>
 have hcb : cb = #[] := Array.eq_empty_of_size_eq_zero hn
 subst hcb
 rcases g5 with ⟨_, h5⟩ | ⟨blk, cs, k1, _, k3, k4, k5, k6, k7, k8, k9⟩
 · have : (l.map fun x => encCap (en x)).length = 0 := by rw [h5]; rfl
   rw [List.length_map] at this; omega
 rw [List.length_map] at k4
 have hv0 := hv3 g g1 g2
 rw [g3, k1] at hv0
 subst hv0
 have cell : ∀ i j, i < l.length → j < 4 → cs[i * 4 + j]? = (encCV (en (nth l i)))[j]? := fun i j hi hj => by
  have hx : (l.map fun x => encCap (en x))[i]? = some (encCap (en (nth l i))) := by rw [List.getElem?_map, List.getElem?_eq_getElem hi, nth_eq hi]; rfl
  have hjl : j < (encCap (en (nth l i))).length := hj
  obtain ⟨u, hu, hr⟩ := k8 i j _ _ hx (List.getElem?_eq_getElem hjl)
  rw [hu, rel_encCV (List.getElem?_eq_getElem hjl) hr]
 have hH : Sort.HoldsK (fun x => encCV (en x)) 4 w blk 0 l.toArray := fun t ht => by
  rw [Sort.size_flatK] at ht
  have ht' : t < l.length * 4 := by simpa using ht
  have hi : t / 4 < l.length := by omega
  have hj : t % 4 < 4 := Nat.mod_lt _ (by decide)
  have he : t = t / 4 * 4 + t % 4 := by omega
  rw [Sort.get_flatK _ _ _ _ ht]
  refine ⟨?_, frozen_of_row w blk _ cs 53 k3⟩
  rw [Nat.zero_add, cell_of_row _ _ _ _ _ _ k3]
  have := cell (t / 4) (t % 4) hi hj
  rw [← he] at this
  rw [this]
  have hd : l.toArray[t / 4]! = nth l (t / 4) := by rw [getElem!_pos l.toArray (t / 4) (by simpa using hi), nth_eq hi]; simp
  rw [hd]
  have hj2 : t % 4 < (encCV (en (nth l (t / 4)))).length := hj
  rw [List.getElem?_eq_getElem hj2]
  exact congrArg some (getElem!_pos (encCV (en (nth l (t / 4)))) (t % 4) hj2).symm
 have hblk : blk < w.heap.size := (Array.getElem?_eq_some_iff.1 k3).1
 have hcon := AnyQ.slices_SortFunc_eq sortLays 4 Tryz.isAgg53 Tryz.sizeOf53 (fun x => encCV (en x)) (fun _ => rfl) (fun x v hv => by
  simp only [encCV, List.mem_cons, List.not_mem_nil, or_false] at hv
  rcases hv with rfl | rfl | rfl | rfl <;> rfl) cf sw f #[] blk 0 g.cap l.toArray w eg (cmpLaysG en cf f hcmp blk 0 l.toArray.size w) hH hblk (by simp; omega)
 have hsz2 : l.toArray.size = l.length := by simp
 rw [hsz2] at hcon
 refine Calls.mono hcon fun e w' ⟨he, n, os, hw⟩ => ?_
 subst hw
 have hd' : ∀ i, i < l.length → (Sort.pdq (ltOf cf) l.toArray 0 l.length (Lib.bitLen l.length) true true)[i]! = nth (sortG cf l) i := fun i hi => by
  have hk2 : i < (Sort.pdq (ltOf cf) l.toArray 0 l.length (Lib.bitLen l.length) true true).size := by
   have : (Sort.pdq (ltOf cf) l.toArray 0 l.length (Lib.bitLen l.length) true true).size = (sortG cf l).length := rfl
   have := sortG_len sw l
   omega
  rw [getElem!_pos _ i hk2, nth_eq (by rw [sortG_len sw]; exact hi)]
  rfl
 have hds : (Sort.pdq (ltOf cf) l.toArray 0 l.length (Lib.bitLen l.length) true true).size = l.length := sortG_len sw l
 generalize Sort.pdq (ltOf cf) l.toArray 0 l.length (Lib.bitLen l.length) true true = D at hd' hds ⊢
 have hheap : (sortWorldK (fun x => encCV (en x)) 4 w blk 0 n D os).heap = (w.heap.modify blk (Sort.onCells (Sort.putCells id 0 (Sort.flatK (fun x => encCV (en x)) 4 D)))) ++ os := rfl
 have hother : ∀ k, k ≠ blk → k < w.heap.size → (sortWorldK (fun x => encCV (en x)) 4 w blk 0 n D os).heap[k]? = w.heap[k]? := fun k hk hlt => by
  rw [hheap, Array.getElem?_append_left (by simpa using hlt), Array.getElem?_modify, if_neg (Ne.symm hk)]
 have hnew : (sortWorldK (fun x => encCV (en x)) 4 w blk 0 n D os).heap[blk]? = some (.cells (Sort.putCells id 0 (Sort.flatK (fun x => encCV (en x)) 4 D) cs) 53 (0, 0)) := by
  rw [hheap, Array.getElem?_append_left (by simpa using hblk), Array.getElem?_modify, if_pos rfl, k3]; rfl
 have hsize : (Sort.putCells id 0 (Sort.flatK (fun x => encCV (en x)) 4 D) cs).size = cs.size := by simp [Sort.putCells]
 have hbig : w.heap.size ≤ (sortWorldK (fun x => encCV (en x)) 4 w blk 0 n D os).heap.size := by rw [hheap]; simp
 have hle : GLe G w G (sortWorldK (fun x => encCV (en x)) 4 w blk 0 n D os) := ⟨fun _ _ h => h, fun _ => Nat.le_refl _, fun _ _ h => .inr h, fun b o v hp hc => by
  have hb : b ≠ blk := fun q => by rw [q] at hp; exact absurd (k9 o hp).1 (by simp)
  have hlt := hprlt b o hp
  simp only [World.cell?, hother b hb hlt] at hc ⊢
  exact hc⟩
 refine ⟨.tuple #[], G, he, .tup [] #[] rfl (by simp), hle, fun b o _ _ hp => hp, fun b o hp => Nat.lt_of_lt_of_le (hprlt b o hp) hbig,
  ⟨rfl, rfl, rfl, fun _ => Nat.le_add_right _ _, hbig, fun k hk => ?_⟩, fun p hp => ?_, hsep⟩
 · refine hother k (fun q => hk (.inr ⟨2, g, g1, k7, by rw [k1, q]⟩)) (Bs.lt_of hk)
 · simp only [List.mem_cons, List.not_mem_nil, or_false] at hp
   subst hp
   refine ⟨hcnt, fun _ x hx a ha => ?_, fun x hx => ?_, g, g1, g2, by rw [List.length_map, sortG_len sw]; exact g3, g4, .inr ⟨blk, _, k1, .inr ⟨2, g, g1, k7, k1⟩, hnew, by rw [List.length_map, sortG_len sw]; exact k4, k5, by rw [hsize]; exact k6, k7, fun i j x a hx ha => ?_, fun o ho => absurd (k9 o ho).1 (by simp)⟩⟩
   · obtain ⟨o, _, rfl⟩ := List.mem_map.1 hx
     simp only [encCap, List.mem_cons, List.not_mem_nil, or_false] at ha
     rcases ha with rfl | rfl | rfl | rfl <;> rfl
   · obtain ⟨o, _, rfl⟩ := List.mem_map.1 hx
     rfl
   · have hi : i < l.length := by
      have := (List.getElem?_eq_some_iff.1 hx).1
      rw [List.length_map, sortG_len sw] at this; exact this
     have hx2 : x = encCap (en (nth (sortG cf l) i)) := by
      rw [List.getElem?_map, List.getElem?_eq_getElem (by rw [sortG_len sw]; exact hi)] at hx
      simp only [Option.map_some, Option.some.injEq] at hx
      rw [← hx, nth_eq (by rw [sortG_len sw]; exact hi)]
     subst hx2
     have hj : j < 4 := (List.getElem?_eq_some_iff.1 ha).1
     have hij : i * 4 + j < D.size * 4 := by rw [hds]; omega
     have hjl : j < (encCV (en (nth (sortG cf l) i))).length := hj
     refine ⟨(encCV (en (nth (sortG cf l) i)))[j], ?_, encCV_rel _ _ ha (List.getElem?_eq_getElem hjl)⟩
     have hlc : i * 4 + j < cs.size := by rw [k6]; have : (i + 1) * 4 ≤ g.cap * 4 := Nat.mul_le_mul_right _ (by omega); omega
     rw [Sort.putCells, Array.getElem?_mapIdx, Array.getElem?_eq_getElem hlc]
     simp only [Option.map_some, Sort.size_flatK, Nat.zero_le, true_and, Nat.zero_add, Nat.sub_zero, id_eq]
     rw [if_pos hij, Sort.get_flatK _ _ _ _ hij, show (i * 4 + j) / 4 = i by omega, show (i * 4 + j) % 4 = j by omega, hd' i hi, getElem!_pos _ j hjl]
end
theorem Or_good [Inhabited DW] (l : List Int) (h : l.length ≤ 1000000) : Ans Tryz.prog 131 [.sl (l.map encInt)] (.int .i64 (firstE l)) := by
 refine good_run [(3, [2, 5, 9, 10, 11, 12, 13, 14, 15, 16], [])] mixed Tryz.func131 rfl Tryz.ntmps131 (rs := [.tmp 2]) rfl (by decide +kernel) (by kernel_rfl) rfl ?_
 rw [startE_eq 18 _ _ _ rfl rfl]
 simp only [go_sem, seval]
 refine loop_by ([2, 5, 9, 10, 11, 12, 13, 14, 15, 16], []) (fun i : Nat => [(.s 8, .int .i64 (i : Int))]) (fun i => l.length - i) (fun i => i ≤ l.length ∧ firstE l = firstE (l.drop i)) 0 rfl ⟨Nat.zero_le _, rfl⟩ rfl ?_
 rintro c' st' hst i ⟨hi, hf⟩ ih
 simp only [go_sem, seval]
 refine ifI (fun hlt => ?_) fun hlt => ?_
 · simp only [go_sem, seval, hlt]
   refine ifI (fun hn => ?_) fun hn => ?_
   · simp only [go_sem, seval, hn]
     rw [hf, drop_nth hlt, firstE, if_neg hn]
   · simp only [go_sem, seval, hn]
     refine ih (i + 1) _ ⟨by omega, ?_⟩ (by omega) ?_
     · rw [hf, drop_nth hlt, firstE, if_pos (by omega)]
     simp only [go_sem, seval, wrap_succ (show i < 9223372036854775807 by omega)]
 · subst hst
   simp only [go_sem, seval, hlt]
   rw [hf, List.drop_eq_nil_of_le (by omega)]; rfl
def cmpC (a b : Cap) : Int := firstE [a.job - b.job, a.object - b.object, a.kind - b.kind, a.auth - b.auth]
def CapSm (x : Cap) : Prop := (-1000000000000000 ≤ x.job ∧ x.job ≤ 1000000000000000) ∧ (-1000000000000000 ≤ x.object ∧ x.object ≤ 1000000000000000) ∧ (-1000000000000000 ≤ x.kind ∧ x.kind ≤ 1000000000000000) ∧ (-1000000000000000 ≤ x.auth ∧ x.auth ≤ 1000000000000000)
theorem compare_good [Inhabited DW] (a b : Cap) (ha : CapSm a) (hb : CapSm b) : Ans Tryz.prog 87 [.agg (encCap a), .agg (encCap b)] (.int .i64 (cmpC a b)) := by
 obtain ⟨a1, a2, a3, a4⟩ := ha
 obtain ⟨b1, b2, b3, b4⟩ := hb
 have w1 : IntKind.wrap .i64 (a.job - b.job) = a.job - b.job := wrap_i64 (by omega) (by omega)
 have w2 : IntKind.wrap .i64 (a.object - b.object) = a.object - b.object := wrap_i64 (by omega) (by omega)
 have w3 : IntKind.wrap .i64 (a.kind - b.kind) = a.kind - b.kind := wrap_i64 (by omega) (by omega)
 have w4 : IntKind.wrap .i64 (a.auth - b.auth) = a.auth - b.auth := wrap_i64 (by omega) (by omega)
 have hg : Ans Tryz.prog 131 [.sl [[.int .i64 (a.job - b.job)], [.int .i64 (a.object - b.object)], [.int .i64 (a.kind - b.kind)], [.int .i64 (a.auth - b.auth)]]] (.int .i64 (cmpC a b)) := Or_good [a.job - b.job, a.object - b.object, a.kind - b.kind, a.auth - b.auth] (by simp)
 refine good_run [] mixed Tryz.func87 rfl Tryz.ntmps87 (rs := [.tmp 4]) rfl (by decide +kernel) (by kernel_rfl) rfl ?_
 rw [startE_eq 27 _ _ _ rfl rfl]
 simp only [go_sem, seval, w1, w2, w3, w4]
 refine call_of (hg) ?_
 simp only [go_sem, seval]
theorem ltC (a b : Cap) : ltOf cmpC a b = a.lt b := by
 have e : ltOf cmpC a b = decide (cmpC a b < 0) := rfl
 rw [e, Bool.eq_iff_iff, decide_eq_true_eq, Cap.lt_iff]
 unfold cmpC
 simp only [firstE]
 split
 · split
   · split
     · split
       · omega
       · omega
     · omega
   · omega
 · omega
abbrev SCap := {x : Cap // CapSm x}
instance : Inhabited SCap := ⟨⟨⟨0, 0, 0, 0⟩, by unfold CapSm; simp⟩⟩
def cmpS (a b : SCap) : Int := cmpC a.1 b.1
theorem ltS (a b : SCap) : ltOf cmpS a b = a.1.lt b.1 := ltC a.1 b.1
theorem swoS : Sort.SWO (ltOf cmpS) where
 irrefl x := by rw [ltS]; exact Cap.lt_irrefl _
 trans x y z h1 h2 := by rw [ltS] at *; exact Cap.lt_trans h1 h2
 ntrans x y z h1 h2 := by
  rw [ltS] at *
  rw [Bool.eq_false_iff]; intro h3
  rcases Cap.lt_total h1 with h4 | h4
  · rw [Cap.lt_trans h4 h3] at h2; cases h2
  · rw [h4, h2] at h3; cases h3
def sortC (l : List SCap) : List Cap := (sortG cmpS l).map Subtype.val
theorem sortC_len (l : List SCap) : (sortC l).length = l.length := by rw [sortC, List.length_map, sortG_len swoS]
theorem sortC_mem (l : List SCap) (x : Cap) : x ∈ sortC l ↔ x ∈ l.map Subtype.val := by
 unfold sortC
 exact ((sortG_perm swoS l).map Subtype.val).mem_iff
theorem sortC_sorted (l : List SCap) : (sortC l).Pairwise fun a b => b.lt a = false := by
 rw [List.pairwise_iff_getElem]
 intro i j hi hj hij
 rw [sortC_len] at hi hj
 have h := sortG_sorted swoS l hij hj
 rw [ltS] at h
 have e : ∀ k (hk : k < (sortC l).length), (sortC l)[k] = (nth (sortG cmpS l) k).1 := fun k hk => by
  have hk2 : k < (sortG cmpS l).length := by rw [sortG_len swoS]; rw [sortC_len] at hk; exact hk
  have h1 : (sortC l)[k]? = some (nth (sortG cmpS l) k).1 := by rw [sortC, List.getElem?_map, List.getElem?_eq_getElem hk2, nth_eq hk2]; rfl
  rw [List.getElem?_eq_getElem hk] at h1; exact Option.some.inj h1
 rw [e i, e j]; exact h
theorem SortC (l : List SCap) (h0 : 0 < l.length) (hl : l.length ≤ 1000000) :
 AnsM Tryz.prog 129 2 [.obj 1 53 4 false true ((l.map Subtype.val).map encCap)] [.ref 2 1, .fn 87 []] (.tup []) [(2, .obj 1 53 4 false true ((sortC l).map encCap))] := by
 have h := SortFuncG (fun x : SCap => x.1) cmpS swoS 87 (fun a b => @compare_good dwT a.1 b.1 a.2 b.2) (enters_of Tryz.func87 (by kernel_rfl) rfl) l h0 hl
 have e1 : (l.map Subtype.val).map encCap = l.map fun x => encCap x.1 := by rw [List.map_map]; rfl
 have e2 : (sortC l).map encCap = (sortG cmpS l).map fun x => encCap x.1 := by unfold sortC; rw [List.map_map]; rfl
 rw [e1, e2]; exact h
end Go.Proofs.YtbhgehhmjpipiaaGreatDoor.C12
namespace Go.Proofs.YtbhgehhmjpipiaaGreatDoor.C12
open Go Go.Proofs Go.Proofs.YtbhgehhmjpipiaaGreatDoor.Ab Go.Proofs.YtbhgehhmjpipiaaGreatDoor.C10
set_option maxRecDepth 100000
attribute [local congr] ite_ctx
theorem Values_good (l : List Cap) : Ans Tryz.prog 86 [.sl (l.map encCap)] (.fn 130 [.ptr [.sl (l.map encCap)]]) := by
 refine good_run [] mixed Tryz.func86 rfl Tryz.ntmps86 (rs := [.tmp 2]) rfl (by decide +kernel) (by kernel_rfl) rfl ?_
 rw [startE_eq 4 _ _ _ rfl rfl]
 simp only [go_sem, seval]
theorem SortedC (l : List SCap) (h0 : 0 < l.length) (hl : l.length ≤ 1000000) : Ans Tryz.prog 85 [.fn 130 [.ptr [.sl ((l.map Subtype.val).map encCap)]], .fn 87 []] (.sl ((sortC l).map encCap)) := by
 have h1 := CollectM (l.map Subtype.val) (by rw [List.length_map]; exact h0) (by rw [List.length_map]; exact hl)
 have h2 := SortC l h0 hl
 generalize (l.map Subtype.val).map encCap = rows at h1 h2
 refine good_run [] mixed Tryz.func85 rfl Tryz.ntmps85 (rs := [.tmp 4]) rfl (by decide +kernel) (by kernel_rfl) rfl ?_
 rw [startE_eq 12 _ _ _ rfl rfl]
 simp only [go_sem, seval]
 refine callM_of [] [7] (h1) ⟨rfl, rfl, rfl, by simp, by simp, by simp, by simp, rfl, rfl, rfl, onodup_of (l := [9]) rfl (by decide)⟩ ?_
 simp only [go_sem, seval]
 refine callM_of [7] [7] (h2) ⟨by simp [renA, ren1, invM, posOf, verOf, AV.cellP, Env.go], rfl, rfl, by simp, by simp, by simp, by simp, rfl, rfl, rfl, onodup_of (l := [2]) rfl (by decide)⟩ ?_
 simp only [go_sem, seval]
def NoAdj (l : List Cap) : Prop := ∀ i, i + 1 < l.length → nth l (i + 1) ≠ nth l i
theorem compactAux_noadj : ∀ (l : List Cap) (a : Cap), NoAdj (a :: l) → compactAux a l = l
 | [], a, _ => rfl
 | b :: l, a, h => by
   have h0 : b ≠ a := h 0 (by simp)
   rw [compactAux, if_neg h0, compactAux_noadj l b fun i hi => h (i + 1) (by simpa using hi)]
theorem compact_noadj {l : List Cap} (h : NoAdj l) : compact l = l := by
 cases l with
 | nil => rfl
 | cons a l => rw [compact, compactAux_noadj l a h]
theorem noadj_of {l : List Cap} (h : l.Nodup) : NoAdj l := fun i hi e => by
 rw [nth_eq hi, nth_eq (by omega)] at e
 have := (List.getElem_inj h).1 e
 omega
theorem cap_eqB (a b : Cap) : (decide (a.job = b.job) && (decide (a.object = b.object) && (decide (a.kind = b.kind) && decide (a.auth = b.auth)))) = decide (a = b) := by
 rw [Bool.eq_iff_iff]; simp [Cap.ext_iff']
set_option maxHeartbeats 4000000 in
theorem CompactS_good (l : List Cap) (hl : l.length ≤ 1000000) (h : NoAdj l) : Ans Tryz.prog 84 [.sl (l.map encCap)] (.sl (l.map encCap)) := by
 refine Classical.byCases (fun h2 : (l.length : Int) < 2 => ?_) fun h2 => ?_
 · have h2t : ((l.length : Int) < 2) = True := eq_true h2
   refine good_run [(9, [29, 30, 31, 32, 33, 34, 35, 36, 37, 38, 39, 40, 41, 42, 43, 44, 45, 46, 47, 48, 49, 50, 51, 52, 53], []), (4, [2, 4, 5, 10, 11, 12, 13, 14, 15, 16, 17, 18, 19, 20, 21, 22, 23, 24, 25, 26, 27, 28, 29, 30, 31, 32, 33, 34, 35, 36, 37, 38, 39, 40, 41, 42, 43, 44, 45, 46, 47, 48, 49, 50, 51, 52, 53, 54, 55, 56, 57, 58, 59], [])] mixed Tryz.func84 rfl Tryz.ntmps84 (rs := [.tmp 2]) rfl (by decide +kernel) (by kernel_rfl) rfl ?_
   rw [startE_eq 61 _ _ _ rfl rfl]
   simp only [go_sem, seval, h2t]
 have h2t : ((l.length : Int) < 2) = False := eq_false h2
 refine good_run [(9, [29, 30, 31, 32, 33, 34, 35, 36, 37, 38, 39, 40, 41, 42, 43, 44, 45, 46, 47, 48, 49, 50, 51, 52, 53], []), (4, [2, 4, 5, 10, 11, 12, 13, 14, 15, 16, 17, 18, 19, 20, 21, 22, 23, 24, 25, 26, 27, 28, 29, 30, 31, 32, 33, 34, 35, 36, 37, 38, 39, 40, 41, 42, 43, 44, 45, 46, 47, 48, 49, 50, 51, 52, 53, 54, 55, 56, 57, 58, 59], [])] mixed Tryz.func84 rfl Tryz.ntmps84 (rs := [.tmp 2]) rfl (by decide +kernel) (by kernel_rfl) rfl ?_
 rw [startE_eq 61 _ _ _ rfl rfl]
 simp only [go_sem, seval, h2t]
 refine loop_by ([2, 4, 5, 10, 11, 12, 13, 14, 15, 16, 17, 18, 19, 20, 21, 22, 23, 24, 25, 26, 27, 28, 29, 30, 31, 32, 33, 34, 35, 36, 37, 38, 39, 40, 41, 42, 43, 44, 45, 46, 47, 48, 49, 50, 51, 52, 53, 54, 55, 56, 57, 58, 59], []) (fun i : Nat => [(.s 3, .int .i64 ((i + 1 : Nat) : Int))]) (fun i => l.length - i) (fun i => i + 1 ≤ l.length) 0 rfl (by omega) rfl ?_
 rintro c' st' hst i hi ih
 simp only [go_sem, seval]
 refine ifI (fun hlt => ?_) fun hlt => ?_
 · have hlt' : i + 1 < l.length := by omega
   have hne := cap_eqB (nth l (i + 1)) (nth l i)
   rw [decide_eq_false (h i hlt')] at hne
   have w1 : IntKind.wrap .i64 (((i + 1 : Nat) : Int) - 1) = (i : Int) := by rw [wrap_i64 (by omega) (by omega)]; omega
   have hi0 : i < l.length := by omega
   simp only [go_sem, seval, hlt, hlt', hi0, w1, hne]
   refine ⟨by decide +kernel, ?_⟩
   refine ih (i + 1) _ (by omega) (by omega) ?_
   simp only [go_sem, seval, wrap_succ (show i + 1 < 9223372036854775807 by omega)]
 · subst hst
   simp only [go_sem, seval, hlt]
theorem ordered_good (l : List SCap) (h0 : 0 < l.length) (hl : l.length ≤ 1000000) (hnd : (l.map Subtype.val).Nodup) : Ans Tryz.prog 44 [.sl ((l.map Subtype.val).map encCap)] (.sl ((sortC l).map encCap)) := by
 have h1 := Values_good (l.map Subtype.val)
 have h2 := SortedC l h0 hl
 have hnd2 : (sortC l).Nodup := (((sortG_perm swoS l).map Subtype.val).nodup_iff).2 hnd
 have h3 := CompactS_good (sortC l) (by rw [sortC_len]; exact hl) (noadj_of hnd2)
 generalize (l.map Subtype.val).map encCap = rows at h1 h2
 refine good_run [] mixed Tryz.func44 rfl Tryz.ntmps44 (rs := [.tmp 2]) rfl (by decide +kernel) (by kernel_rfl) rfl ?_
 rw [startE_eq 7 _ _ _ rfl rfl]
 simp only [go_sem, seval]
 refine call_of (h1) ?_
 simp only [go_sem, seval]
 refine call_of (h2) ?_
 simp only [go_sem, seval]
 refine call_of (h3) ?_
 simp only [go_sem, seval]
end Go.Proofs.YtbhgehhmjpipiaaGreatDoor.C12
namespace Go.Proofs.YtbhgehhmjpipiaaGreatDoor.C12
open Go Go.Proofs Go.Proofs.YtbhgehhmjpipiaaGreatDoor.Ab Go.Proofs.YtbhgehhmjpipiaaGreatDoor.C10
set_option maxRecDepth 100000
attribute [local congr] ite_ctx
theorem goes129 : goes Tryz.prog 129 = true := by kernel_rfl
theorem SortNil : Ans Tryz.prog 129 [.nils, .fn 87 []] (.tup []) := by
 refine ⟨goes129, rfl, fun w Pr vs hs hr hlt hgl => ?_⟩
 have hv : ∃ v0 v1, vs = #[v0, v1] := by
  match vs, hs with
  | ⟨[x, y]⟩, _ => exact ⟨x, y, rfl⟩
 obtain ⟨v0, v1, rfl⟩ := hv
 have r0 := hr 0 _ v0 rfl rfl
 cases r0
 refine Calls.mono (AnyF.slices_SortFunc_none sortLays none 0 v1 w) fun e w' ⟨he, hw⟩ => ?_
 subst hw
 exact ⟨_, Pr, he, .tup [] #[] rfl (by simp), fun _ _ h => h, fun _ _ _ h => h, hlt, ⟨RowKit.Below.refl _ _, fun q => q.elim⟩⟩
theorem ordered_nil : Ans Tryz.prog 44 [.sl []] .nils := by
 have h1 : Ans Tryz.prog 86 [.sl []] (.fn 130 [.ptr [.sl []]]) := Values_good []
 have h2 : Ans Tryz.prog 85 [.fn 130 [.ptr [.sl []]], .fn 87 []] .nils := by
  refine good_run [] mixed Tryz.func85 rfl Tryz.ntmps85 (rs := [.tmp 4]) rfl (by decide +kernel) (by kernel_rfl) rfl ?_
  rw [startE_eq 12 _ _ _ rfl rfl]
  simp only [go_sem, seval]
  refine call_of (Collect_nil) ?_
  simp only [go_sem, seval]
  refine call_of (SortNil) ?_
  simp only [go_sem, seval]
 have h3 : Ans Tryz.prog 84 [.nils] .nils := by
  refine good_run [(9, [29, 30, 31, 32, 33, 34, 35, 36, 37, 38, 39, 40, 41, 42, 43, 44, 45, 46, 47, 48, 49, 50, 51, 52, 53], []), (4, [2, 4, 5, 10, 11, 12, 13, 14, 15, 16, 17, 18, 19, 20, 21, 22, 23, 24, 25, 26, 27, 28, 29, 30, 31, 32, 33, 34, 35, 36, 37, 38, 39, 40, 41, 42, 43, 44, 45, 46, 47, 48, 49, 50, 51, 52, 53, 54, 55, 56, 57, 58, 59], [])] mixed Tryz.func84 rfl Tryz.ntmps84 (rs := [.tmp 2]) rfl (by decide +kernel) (by kernel_rfl) rfl ?_
  rw [startE_eq 61 _ _ _ rfl rfl]
  simp only [go_sem, seval]
 refine good_run [] mixed Tryz.func44 rfl Tryz.ntmps44 (rs := [.tmp 2]) rfl (by decide +kernel) (by kernel_rfl) rfl ?_
 rw [startE_eq 7 _ _ _ rfl rfl]
 simp only [go_sem, seval]
 refine call_of (h1) ?_
 simp only [go_sem, seval]
 refine call_of (h2) ?_
 simp only [go_sem, seval]
 refine call_of (h3) ?_
 simp only [go_sem, seval]
def toS (l : List Cap) (h : ∀ x ∈ l, CapSm x) : List SCap := l.attach.map fun x => ⟨x.1, h x.1 x.2⟩
theorem toS_val (l : List Cap) (h : ∀ x ∈ l, CapSm x) : (toS l h).map Subtype.val = l := by
 unfold toS
 rw [List.map_map]
 exact List.attach_map_subtype_val l
theorem ordered_all (l : List Cap) (h : ∀ x ∈ l, CapSm x) (hl : l.length ≤ 1000000) (hnd : l.Nodup) : ∃ m, Ans Tryz.prog 44 [.sl (l.map encCap)] (.sl (m.map encCap)) ∧ (∀ x, x ∈ m ↔ x ∈ l) ∧ m.Pairwise (fun a b => b.lt a = false) ∧ compact m = m ∧ m.length = l.length := by
 have hv := toS_val l h
 have hlen : (toS l h).length = l.length := by rw [← List.length_map (f := Subtype.val), hv]
 rcases Nat.eq_zero_or_pos l.length with h0 | h0
 · have : l = [] := List.eq_nil_of_length_eq_zero h0
   subst this
   exact ⟨[], Ans.le ordered_nil .nils rfl, fun x => Iff.rfl, .nil, rfl, rfl⟩
 · have hg := ordered_good (toS l h) (by omega) (by omega) (by rw [hv]; exact hnd)
   rw [hv] at hg
   have hnd2 : (sortC (toS l h)).Nodup := (((sortG_perm swoS (toS l h)).map Subtype.val).nodup_iff).2 (by rw [hv]; exact hnd)
   exact ⟨_, hg, fun x => by rw [sortC_mem, hv], sortC_sorted _, compact_noadj (noadj_of hnd2), by rw [sortC_len, hlen]⟩
end Go.Proofs.YtbhgehhmjpipiaaGreatDoor.C12
