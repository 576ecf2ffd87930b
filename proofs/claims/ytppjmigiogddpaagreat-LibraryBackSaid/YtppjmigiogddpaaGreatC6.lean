/- Chapter 9: slices.SortFunc as a contract with an own row, for any comparator with a law. -/
import Derived.Test.YtppjmigiogddpaaGreatC5
namespace Go.Proofs.YtppjmigiogddpaaGreat.C08
open Go Go.Proofs Go.Proofs.YtppjmigiogddpaaGreat.Ab
set_option linter.unusedSimpArgs false
set_option linter.unusedVariables false

section
variable {α : Type} [Inhabited α]

def sortG (cf : α → α → Int) (l : List α) : List α := (Sort.pdq (ltOf cf) l.toArray 0 l.length (Lib.bitLen l.length) true true).toList
theorem sortG_perm {cf : α → α → Int} (sw : Sort.SWO (ltOf cf)) (l : List α) : (sortG cf l).Perm l := by
  have h := (Sort.pdq_sorts (ltOf cf) sw l.toArray 0 l.length (Lib.bitLen l.length) true true (Nat.zero_le _) (Nat.le_refl _) (Or.inl rfl)).1
  obtain ⟨h1, _, h3⟩ := h
  have e1 : (l.toArray.extract 0 l.length) = l.toArray := by simp
  rw [e1] at h3
  have e2 : ∀ a : Array α, a.size = l.length → a.extract 0 l.length = a := fun a ha => by rw [← ha]; simp
  rw [e2 _ (by rw [h1]; simp)] at h3
  exact h3
theorem sortG_len {cf : α → α → Int} (sw : Sort.SWO (ltOf cf)) (l : List α) : (sortG cf l).length = l.length := (sortG_perm sw l).length_eq
theorem sortG_sorted {cf : α → α → Int} (sw : Sort.SWO (ltOf cf)) (l : List α) {i j : Nat} (hij : i < j) (hj : j < l.length) : ltOf cf (nth (sortG cf l) j) (nth (sortG cf l) i) = false := by
  have h := (Sort.pdq_sorts (ltOf cf) sw l.toArray 0 l.length (Lib.bitLen l.length) true true (Nat.zero_le _) (Nat.le_refl _) (Or.inl rfl)).2
  have hl := sortG_len sw l
  have e : ∀ k, k < l.length → (Sort.pdq (ltOf cf) l.toArray 0 l.length (Lib.bitLen l.length) true true)[k]! = nth (sortG cf l) k := fun k hk => by
    have hk2 : k < (Sort.pdq (ltOf cf) l.toArray 0 l.length (Lib.bitLen l.length) true true).size := by
      have : (Sort.pdq (ltOf cf) l.toArray 0 l.length (Lib.bitLen l.length) true true).size = (sortG cf l).length := rfl
      omega
    rw [getElem!_pos _ k hk2, nth_eq (by rw [hl]; exact hk)]
    rfl
  have := h i j (Nat.zero_le _) hij hj
  rw [e i (by omega), e j hj] at this
  exact this

theorem cmpLaysG (en : α → Obj) (cf : α → α → Int) (f : Nat) (hcmp : ∀ a b, Ans Tryz.prog f [.agg (encObj (en a)), .agg (encObj (en b))] (.int .i64 (cf a b))) (blk off size : Nat) (w : World) : CmpLays Tryz.prog f #[] (fun x => encV (en x)) 7 cf blk off size w := fun m os dk hs x y => by
  have h := (hcmp x y).2.2 (sortWorldK (fun x => encV (en x)) 7 w blk off m dk os) (fun _ _ => False) #[.agg (encV (en x)).toArray, .agg (encV (en y)).toArray] rfl (fun i a v ha hv => by
    match i, ha, hv with
    | 0, ha, hv => cases ha; cases hv; exact agg_enc _ _ (en x)
    | 1, ha, hv => cases ha; cases hv; exact agg_enc _ _ (en y)
    | i + 2, ha, hv => simp at ha) (fun _ _ h => h.elim)
  refine Calls.mono h fun e w' ⟨v, Pr', he, hv, _, _, _, hb⟩ => ?_
  cases hv
  exact ⟨he, grow_of hb⟩

theorem SortFuncG (en : α → Obj) (cf : α → α → Int) (sw : Sort.SWO (ltOf cf)) (f : Nat) (hcmp : ∀ a b, Ans Tryz.prog f [.agg (encObj (en a)), .agg (encObj (en b))] (.int .i64 (cf a b)))
    (eg : ∀ args w, (callFunc f args).run Tryz.prog w = .ok (.enter f args) w) (l : List α) (h0 : 0 < l.length) (hl : l.length ≤ 1000000) :
    AnsM Tryz.prog 41 2 [.obj 1 41 7 false true (l.map fun x => encObj (en x))] [.ref 2 1, .fn f []] (.tup []) [(2, .obj 1 41 7 false true ((sortG cf l).map fun x => encObj (en x)))] := by
  refine ⟨by kernel_rfl, fun w G vs hsz hvs hprlt hobj hsep => ?_⟩
  have hO := hobj 2
  obtain ⟨hcnt, hpu, hes, g, g1, g2, g3, g4, g5⟩ : ObRel G w (fun _ => True) 2 (.obj 1 41 7 false true (l.map fun x => encObj (en x))) := hO
  rw [List.length_map] at g3
  have hv : ∃ v0 v1, vs = #[v0, v1] := by
    match vs, hsz with
    | ⟨[x, y]⟩, _ => exact ⟨x, y, rfl⟩
  obtain ⟨v0, v1, rfl⟩ := hv
  have r0 := hvs 0 _ _ rfl rfl
  have r1 := hvs 1 _ _ rfl rfl
  cases r0 with
  | ref _ _ _ hv1 hv2 hv3 =>
  cases r1 with
  | fn _ _ cb hn hp hr =>
  have hcb : cb = #[] := Array.eq_empty_of_size_eq_zero hn
  subst hcb
  rcases g5 with ⟨_, h5⟩ | ⟨blk, cs, k1, _, k3, k4, k5, k6, k7, k8, k9⟩
  · have : (l.map fun x => encObj (en x)).length = 0 := by rw [h5]; rfl
    rw [List.length_map] at this; omega
  rw [List.length_map] at k4
  have hv0 := hv3 g g1 g2
  rw [g3, k1] at hv0
  subst hv0
  -- the cells
  have cell : ∀ i j, i < l.length → j < 7 → cs[i * 7 + j]? = (encV (en (nth l i)))[j]? := fun i j hi hj => by
    have hx : (l.map fun x => encObj (en x))[i]? = some (encObj (en (nth l i))) := by rw [List.getElem?_map, List.getElem?_eq_getElem hi, nth_eq hi]; rfl
    have hjl : j < (encObj (en (nth l i))).length := hj
    obtain ⟨u, hu, hr⟩ := k8 i j _ _ hx (List.getElem?_eq_getElem hjl)
    rw [hu, rel_encV (List.getElem?_eq_getElem hjl) hr]
  have hH : Sort.HoldsK (fun x => encV (en x)) 7 w blk 0 l.toArray := fun t ht => by
    rw [Sort.size_flatK] at ht
    have ht' : t < l.length * 7 := by simpa using ht
    have hi : t / 7 < l.length := by omega
    have hj : t % 7 < 7 := Nat.mod_lt _ (by decide)
    have he : t = t / 7 * 7 + t % 7 := by omega
    rw [Sort.get_flatK _ _ _ _ ht]
    refine ⟨?_, frozen_of_row w blk _ cs 41 k3⟩
    rw [Nat.zero_add, cell_of_row _ _ _ _ _ _ k3]
    have := cell (t / 7) (t % 7) hi hj
    rw [← he] at this
    rw [this]
    have hd : l.toArray[t / 7]! = nth l (t / 7) := by rw [getElem!_pos l.toArray (t / 7) (by simpa using hi), nth_eq hi]; simp
    rw [hd]
    have hj2 : t % 7 < (encV (en (nth l (t / 7)))).length := hj
    rw [List.getElem?_eq_getElem hj2]
    exact congrArg some (getElem!_pos (encV (en (nth l (t / 7)))) (t % 7) hj2).symm
  have hblk : blk < w.heap.size := (Array.getElem?_eq_some_iff.1 k3).1
  have hcon := AnyQ.slices_SortFunc_eq sortLays 7 Tryz.isAgg41 Tryz.sizeOf41 (fun x => encV (en x)) (fun _ => rfl) (fun x v hv => by
    simp only [encV, List.mem_cons, List.not_mem_nil, or_false] at hv
    rcases hv with rfl | rfl | rfl | rfl | rfl | rfl | rfl <;> rfl) cf sw f #[] blk 0 g.cap l.toArray w eg (cmpLaysG en cf f hcmp blk 0 l.toArray.size w) hH hblk (by simp; omega)
  have hsz2 : l.toArray.size = l.length := by simp
  rw [hsz2] at hcon
  refine Calls.mono hcon fun e w' ⟨he, n, os, hw⟩ => ?_
  subst hw
  have hd' : ∀ i, i < l.length → (Sort.pdq (ltOf cf) l.toArray 0 l.length (Lib.bitLen l.length) true true)[i]! = nth (sortG cf l) i := fun i hi => by
    have hk2 : i < (Sort.pdq (ltOf cf) l.toArray 0 l.length (Lib.bitLen l.length) true true).size := by
      have : (Sort.pdq (ltOf cf) l.toArray 0 l.length (Lib.bitLen l.length) true true).size = (sortG cf l).length := rfl
      have := sortG_len sw l
      omega
    rw [getElem!_pos _ i hk2, nth_eq (by rw [sortG_len sw]; exact hi)]
    rfl
  have hds : (Sort.pdq (ltOf cf) l.toArray 0 l.length (Lib.bitLen l.length) true true).size = l.length := sortG_len sw l
  generalize Sort.pdq (ltOf cf) l.toArray 0 l.length (Lib.bitLen l.length) true true = D at hd' hds ⊢
  have hheap : (sortWorldK (fun x => encV (en x)) 7 w blk 0 n D os).heap = (w.heap.modify blk (Sort.onCells (Sort.putCells id 0 (Sort.flatK (fun x => encV (en x)) 7 D)))) ++ os := rfl
  have hother : ∀ k, k ≠ blk → k < w.heap.size → (sortWorldK (fun x => encV (en x)) 7 w blk 0 n D os).heap[k]? = w.heap[k]? := fun k hk hlt => by
    rw [hheap, Array.getElem?_append_left (by simpa using hlt), Array.getElem?_modify, if_neg (Ne.symm hk)]
  have hnew : (sortWorldK (fun x => encV (en x)) 7 w blk 0 n D os).heap[blk]? = some (.cells (Sort.putCells id 0 (Sort.flatK (fun x => encV (en x)) 7 D) cs) 41 (0, 0)) := by
    rw [hheap, Array.getElem?_append_left (by simpa using hblk), Array.getElem?_modify, if_pos rfl, k3]; rfl
  have hsize : (Sort.putCells id 0 (Sort.flatK (fun x => encV (en x)) 7 D) cs).size = cs.size := by simp [Sort.putCells]
  have hbig : w.heap.size ≤ (sortWorldK (fun x => encV (en x)) 7 w blk 0 n D os).heap.size := by rw [hheap]; simp
  have hle : GLe G w G (sortWorldK (fun x => encV (en x)) 7 w blk 0 n D os) := ⟨fun _ _ h => h, fun _ => Nat.le_refl _, fun _ _ h => .inr h, fun b o v hp hc => by
    have hb : b ≠ blk := fun q => by rw [q] at hp; exact absurd (k9 o hp).1 (by simp)
    have hlt := hprlt b o hp
    simp only [World.cell?, hother b hb hlt] at hc ⊢
    exact hc⟩
  refine ⟨.tuple #[], G, he, .tup [] #[] rfl (by simp), hle, fun b o _ _ hp => hp, fun b o hp => Nat.lt_of_lt_of_le (hprlt b o hp) hbig,
    ⟨rfl, rfl, rfl, Nat.le_add_right _ _, hbig, fun k hk => ?_⟩, fun p hp => ?_, hsep⟩
  · refine hother k (fun q => hk (.inr ⟨2, g, g1, k7, by rw [k1, q]⟩)) (Bs.lt_of hk)
  · simp only [List.mem_cons, List.not_mem_nil, or_false] at hp
    subst hp
    refine ⟨hcnt, fun _ x hx a ha => ?_, fun x hx => ?_, g, g1, g2, by rw [List.length_map, sortG_len sw]; exact g3, g4, .inr ⟨blk, _, k1, .inr ⟨2, g, g1, k7, k1⟩, hnew, by rw [List.length_map, sortG_len sw]; exact k4, k5, by rw [hsize]; exact k6, k7, fun i j x a hx ha => ?_, fun o ho => absurd (k9 o ho).1 (by simp)⟩⟩
    · obtain ⟨o, _, rfl⟩ := List.mem_map.1 hx
      simp only [encObj, List.mem_cons, List.not_mem_nil, or_false] at ha
      rcases ha with rfl | rfl | rfl | rfl | rfl | rfl | rfl <;> rfl
    · obtain ⟨o, _, rfl⟩ := List.mem_map.1 hx
      rfl
    · have hi : i < l.length := by
        have := (List.getElem?_eq_some_iff.1 hx).1
        rw [List.length_map, sortG_len sw] at this; exact this
      have hx2 : x = encObj (en (nth (sortG cf l) i)) := by
        rw [List.getElem?_map, List.getElem?_eq_getElem (by rw [sortG_len sw]; exact hi)] at hx
        simp only [Option.map_some, Option.some.injEq] at hx
        rw [← hx, nth_eq (by rw [sortG_len sw]; exact hi)]
      subst hx2
      have hj : j < 7 := (List.getElem?_eq_some_iff.1 ha).1
      have hij : i * 7 + j < D.size * 7 := by rw [hds]; omega
      have hjl : j < (encV (en (nth (sortG cf l) i))).length := hj
      refine ⟨(encV (en (nth (sortG cf l) i)))[j], ?_, encV_rel _ _ ha (List.getElem?_eq_getElem hjl)⟩
      have hlc : i * 7 + j < cs.size := by rw [k6]; have : (i + 1) * 7 ≤ g.cap * 7 := Nat.mul_le_mul_right _ (by omega); omega
      rw [Sort.putCells, Array.getElem?_mapIdx, Array.getElem?_eq_getElem hlc]
      simp only [Option.map_some, Sort.size_flatK, Nat.zero_le, true_and, Nat.zero_add, Nat.sub_zero, id_eq]
      rw [if_pos hij, Sort.get_flatK _ _ _ _ hij, show (i * 7 + j) / 7 = i by omega, show (i * 7 + j) % 7 = j by omega, hd' i hi, getElem!_pos _ j hjl]
end
theorem SortFuncM (l : List Obj) (h0 : 0 < l.length) (hl : l.length ≤ 1000000) :
    AnsM Tryz.prog 41 2 [.obj 1 41 7 false true (l.map encObj)] [.ref 2 1, .fn 127 []] (.tup []) [(2, .obj 1 41 7 false true ((sortO l).map encObj))] :=
  SortFuncG (fun x => x) cmpO swo 127 sorted1_good (enters_of Tryz.func127 (by kernel_rfl) rfl) l h0 hl
end Go.Proofs.YtppjmigiogddpaaGreat.C08
