/- Chapter 8: slices.SortFunc as a contract with an own row. -/
import Derived.Test.YtcmnbfpcomcejaaC5
namespace Go.Proofs.Ytcmnbfpcomcejaa.C08
open Go Go.Proofs Go.Proofs.Ytcmnbfpcomcejaa.Ab
set_option linter.unusedSimpArgs false
set_option linter.unusedVariables false

theorem SortFuncM (l : List Obj) (h0 : 0 < l.length) (hl : l.length ≤ 1000000) :
    AnsM Try.prog 98 2 [.obj 1 25 7 false true (l.map encObj)] [.ref 2 1, .fn 99 []] (.tup []) [(2, .obj 1 25 7 false true ((sortO l).map encObj))] := by
  refine ⟨by kernel_rfl, fun w G vs hsz hvs hprlt hobj hsep => ?_⟩
  have hO := hobj 2
  obtain ⟨hcnt, hpu, hes, g, g1, g2, g3, g4, g5⟩ : ObRel G w (fun _ => True) 2 (.obj 1 25 7 false true (l.map encObj)) := hO
  rw [List.length_map] at g3
  have hv : ∃ v0 v1, vs = #[v0, v1] := by
    match vs, hsz with
    | ⟨[x, y]⟩, _ => exact ⟨x, y, rfl⟩
  obtain ⟨v0, v1, rfl⟩ := hv
  have r0 := hvs 0 _ _ rfl rfl
  have r1 := hvs 1 _ _ rfl rfl
  cases r0 with
  | ref _ _ _ hv1 hv2 hv3 =>
  cases r1 with
  | fn _ _ cb hn hp hr =>
  have hcb : cb = #[] := Array.eq_empty_of_size_eq_zero hn
  subst hcb
  rcases g5 with ⟨_, h5⟩ | ⟨blk, cs, k1, _, k3, k4, k5, k6, k7, k8, k9⟩
  · have : (l.map encObj).length = 0 := by rw [h5]; rfl
    rw [List.length_map] at this; omega
  rw [List.length_map] at k4
  have hv0 := hv3 g g1 g2
  rw [g3, k1] at hv0
  subst hv0
  -- the cells
  have cell : ∀ i j, i < l.length → j < 7 → cs[i * 7 + j]? = (encV (nth l i))[j]? := fun i j hi hj => by
    have hx : (l.map encObj)[i]? = some (encObj (nth l i)) := by rw [List.getElem?_map, List.getElem?_eq_getElem hi, nth_eq hi]; rfl
    have hjl : j < (encObj (nth l i)).length := hj
    obtain ⟨u, hu, hr⟩ := k8 i j _ _ hx (List.getElem?_eq_getElem hjl)
    rw [hu, rel_encV (List.getElem?_eq_getElem hjl) hr]
  have hH : Sort.HoldsK encV 7 w blk 0 l.toArray := fun t ht => by
    rw [Sort.size_flatK] at ht
    have ht' : t < l.length * 7 := by simpa using ht
    have hi : t / 7 < l.length := by omega
    have hj : t % 7 < 7 := Nat.mod_lt _ (by decide)
    have he : t = t / 7 * 7 + t % 7 := by omega
    rw [Sort.get_flatK _ _ _ _ ht]
    refine ⟨?_, frozen_of_row w blk _ cs 25 k3⟩
    rw [Nat.zero_add, cell_of_row _ _ _ _ _ _ k3]
    have := cell (t / 7) (t % 7) hi hj
    rw [← he] at this
    rw [this]
    have hd : l.toArray[t / 7]! = nth l (t / 7) := by rw [getElem!_pos l.toArray (t / 7) (by simpa using hi), nth_eq hi]; simp
    rw [hd]
    have hj2 : t % 7 < (encV (nth l (t / 7))).length := hj
    rw [List.getElem?_eq_getElem hj2]
    exact congrArg some (getElem!_pos (encV (nth l (t / 7))) (t % 7) hj2).symm
  have hblk : blk < w.heap.size := (Array.getElem?_eq_some_iff.1 k3).1
  have eg : ∀ args w, (callFunc 99 args).run Try.prog w = .ok (.enter 99 args) w := enters_of Try.func99 (by kernel_rfl) rfl
  have hcon := AnyQ.slices_SortFunc_eq sortLays 7 Try.isAgg25 Try.sizeOf25 encV (fun _ => rfl) (fun x v hv => by
    simp only [encV, List.mem_cons, List.not_mem_nil, or_false] at hv
    rcases hv with rfl | rfl | rfl | rfl | rfl | rfl | rfl <;> rfl) cmpO swo 99 #[] blk 0 g.cap l.toArray w eg (cmpLays blk 0 l.toArray.size w) hH hblk (by simp; omega)
  have hsz2 : l.toArray.size = l.length := by simp
  rw [hsz2] at hcon
  refine Calls.mono hcon fun e w' ⟨he, n, os, hw⟩ => ?_
  subst hw
  have hd' : ∀ i, i < l.length → (Sort.pdq (ltOf cmpO) l.toArray 0 l.length (Lib.bitLen l.length) true true)[i]! = nth (sortO l) i := fun i hi => by
    have hk2 : i < (Sort.pdq (ltOf cmpO) l.toArray 0 l.length (Lib.bitLen l.length) true true).size := by
      have : (Sort.pdq (ltOf cmpO) l.toArray 0 l.length (Lib.bitLen l.length) true true).size = (sortO l).length := rfl
      have := sortO_len l
      omega
    rw [getElem!_pos _ i hk2, nth_eq (by rw [sortO_len]; exact hi)]
    rfl
  have hds : (Sort.pdq (ltOf cmpO) l.toArray 0 l.length (Lib.bitLen l.length) true true).size = l.length := sortO_len l
  generalize Sort.pdq (ltOf cmpO) l.toArray 0 l.length (Lib.bitLen l.length) true true = D at hd' hds ⊢
  have hheap : (sortWorldK encV 7 w blk 0 n D os).heap = (w.heap.modify blk (Sort.onCells (Sort.putCells id 0 (Sort.flatK encV 7 D)))) ++ os := rfl
  have hother : ∀ k, k ≠ blk → k < w.heap.size → (sortWorldK encV 7 w blk 0 n D os).heap[k]? = w.heap[k]? := fun k hk hlt => by
    rw [hheap, Array.getElem?_append_left (by simpa using hlt), Array.getElem?_modify, if_neg (Ne.symm hk)]
  have hnew : (sortWorldK encV 7 w blk 0 n D os).heap[blk]? = some (.cells (Sort.putCells id 0 (Sort.flatK encV 7 D) cs) 25 (0, 0)) := by
    rw [hheap, Array.getElem?_append_left (by simpa using hblk), Array.getElem?_modify, if_pos rfl, k3]; rfl
  have hsize : (Sort.putCells id 0 (Sort.flatK encV 7 D) cs).size = cs.size := by simp [Sort.putCells]
  have hbig : w.heap.size ≤ (sortWorldK encV 7 w blk 0 n D os).heap.size := by rw [hheap]; simp
  have hle : GLe G w G (sortWorldK encV 7 w blk 0 n D os) := ⟨fun _ _ h => h, fun _ => Nat.le_refl _, fun _ _ h => .inr h, fun b o v hp hc => by
    have hb : b ≠ blk := fun q => by rw [q] at hp; exact absurd (k9 o hp).1 (by simp)
    have hlt := hprlt b o hp
    simp only [World.cell?, hother b hb hlt] at hc ⊢
    exact hc⟩
  refine ⟨.tuple #[], G, he, .tup [] #[] rfl (by simp), hle, fun b o _ _ hp => hp, fun b o hp => Nat.lt_of_lt_of_le (hprlt b o hp) hbig,
    ⟨rfl, rfl, rfl, Nat.le_add_right _ _, hbig, fun k hk => ?_⟩, fun p hp => ?_, hsep⟩
  · refine hother k (fun q => hk (.inr ⟨2, g, g1, k7, by rw [k1, q]⟩)) (Bs.lt_of hk)
  · simp only [List.mem_cons, List.not_mem_nil, or_false] at hp
    subst hp
    refine ⟨hcnt, fun _ x hx a ha => ?_, fun x hx => ?_, g, g1, g2, by rw [List.length_map, sortO_len]; exact g3, g4, .inr ⟨blk, _, k1, .inr ⟨2, g, g1, k7, k1⟩, hnew, by rw [List.length_map, sortO_len]; exact k4, k5, by rw [hsize]; exact k6, k7, fun i j x a hx ha => ?_, fun o ho => absurd (k9 o ho).1 (by simp)⟩⟩
    · obtain ⟨o, _, rfl⟩ := List.mem_map.1 hx
      simp only [encObj, List.mem_cons, List.not_mem_nil, or_false] at ha
      rcases ha with rfl | rfl | rfl | rfl | rfl | rfl | rfl <;> rfl
    · obtain ⟨o, _, rfl⟩ := List.mem_map.1 hx
      rfl
    · have hi : i < l.length := by
        have := (List.getElem?_eq_some_iff.1 hx).1
        rw [List.length_map, sortO_len] at this; exact this
      have hx2 : x = encObj (nth (sortO l) i) := by
        rw [List.getElem?_map, List.getElem?_eq_getElem (by rw [sortO_len]; exact hi)] at hx
        simp only [Option.map_some, Option.some.injEq] at hx
        rw [← hx, nth_eq (by rw [sortO_len]; exact hi)]
      subst hx2
      have hj : j < 7 := (List.getElem?_eq_some_iff.1 ha).1
      have hij : i * 7 + j < D.size * 7 := by rw [hds]; omega
      have hjl : j < (encV (nth (sortO l) i)).length := hj
      refine ⟨(encV (nth (sortO l) i))[j], ?_, encV_rel _ _ ha (List.getElem?_eq_getElem hjl)⟩
      have hlc : i * 7 + j < cs.size := by rw [k6]; have : (i + 1) * 7 ≤ g.cap * 7 := Nat.mul_le_mul_right _ (by omega); omega
      rw [Sort.putCells, Array.getElem?_mapIdx, Array.getElem?_eq_getElem hlc]
      simp only [Option.map_some, Sort.size_flatK, Nat.zero_le, true_and, Nat.zero_add, Nat.sub_zero, id_eq]
      rw [if_pos hij, Sort.get_flatK _ _ _ _ hij, show (i * 7 + j) / 7 = i by omega, show (i * 7 + j) % 7 = j by omega, hd' i hi, getElem!_pos _ j hjl]
end Go.Proofs.Ytcmnbfpcomcejaa.C08
