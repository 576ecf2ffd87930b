/- Chapter 9: the plain law of round trips. -/
import Derived.Test.YtppjmigiogddpaaGreatQ4
import Derived.Test.YtppjmigiogddpaaGreatE3
import Derived.Test.YtppjmigiogddpaaGreatE14
import Derived.Test.YtppjmigiogddpaaGreatE19
namespace Go.Proofs.YtppjmigiogddpaaGreat.C08
open Go Go.Proofs Go.Proofs.YtppjmigiogddpaaGreat.Ab
set_option linter.unusedSimpArgs false
set_option linter.unusedVariables false

-- names
theorem ixb_no (c : UInt8) : ∀ l : List UInt8, (∀ x ∈ l, ¬ x = c) → Lib.indexByte l c = -1
  | [], _ => rfl
  | b :: l, h => by
    have hb : (b == c) = false := by simpa using h b (List.mem_cons_self ..)
    rw [Lib.indexByte, hb, ixb_no c l fun x hx => h x (List.mem_cons_of_mem _ hx)]; rfl
theorem ixb_at (c : UInt8) : ∀ (l m : List UInt8), (∀ x ∈ l, ¬ x = c) → Lib.indexByte (l ++ c :: m) c = (l.length : Int)
  | [], m, _ => by rw [List.nil_append, Lib.indexByte, beq_self_eq_true]; rfl
  | b :: l, m, h => by
    have hb : (b == c) = false := by simpa using h b (List.mem_cons_self ..)
    have ih := ixb_at c l m fun x hx => h x (List.mem_cons_of_mem _ hx)
    rw [List.cons_append, Lib.indexByte, hb, ih, if_neg (by decide), if_neg (by simp), List.length_cons, Int.natCast_add, Int.natCast_one]
theorem nameFrom_all {s : ByteArray} : ∀ (k i : Nat), nameFrom s k i = true → ∀ j, i ≤ j → j < i + k → nameByte j (byteAt s j) = true
  | 0, i, _, j, h1, h2 => by omega
  | k + 1, i, h, j, h1, h2 => by
    rw [nameFrom, Bool.and_eq_true] at h
    by_cases e : j = i
    · rw [e]; exact h.1
    · exact nameFrom_all k (i + 1) h.2 j (by omega) (by omega)
theorem nm_byte {s : ByteArray} (h : isNm s = true) {j : Nat} (hj : j < s.size) : ¬ byteAt s j = 47 ∧ ¬ byteAt s j = 42 := by
  rw [isNm, Bool.and_eq_true] at h
  have := nameFrom_all _ _ h.2 j (Nat.zero_le _) (by omega)
  constructor <;> intro e <;> rw [e] at this <;> simp [nameByte, inB] at this
theorem nm_pos {s : ByteArray} (h : isNm s = true) : 0 < s.size := by
  rw [isNm, Bool.and_eq_true, decide_eq_true_eq] at h; omega
theorem byte_mem {s : ByteArray} {x : UInt8} (h : x ∈ s.data.toList) : ∃ j, j < s.size ∧ byteAt s j = (x.toNat : Int) := by
  obtain ⟨j, hj, e⟩ := List.getElem_of_mem h
  refine ⟨j, hj, ?_⟩
  rw [byteAt, List.getD_eq_getElem?_getD, List.getElem?_eq_getElem hj, e]; rfl
theorem nm_mem {s : ByteArray} (h : isNm s = true) : ∀ x ∈ s.data.toList, ¬ x = 47 := fun x hx e => by
  obtain ⟨j, hj, e2⟩ := byte_mem hx
  exact (nm_byte h hj).1 (by rw [e2, e]; rfl)
theorem sp_mem {s : ByteArray} (h : isSp s = true) : ∀ x ∈ s.data.toList, ¬ x = 47 := by
  rw [isSp, Bool.or_eq_true, Bool.or_eq_true, decide_eq_true_eq, decide_eq_true_eq, decide_eq_true_eq] at h
  rcases h with (rfl | rfl) | rfl <;> decide
def restQ (q : QName) : ByteArray := if q.generic = true then q.name ++ ⟨#[42]⟩ else q.name
theorem fmt_eq (q : QName) : fmt q = if q.lib = ⟨#[]⟩ then restQ q else q.lib ++ ⟨#[47]⟩ ++ restQ q := by
  rw [fmt, fmtL, restQ]
  by_cases h1 : q.generic = true
  · by_cases h2 : q.lib = ⟨#[]⟩
    · rw [if_pos h1, if_pos h2, if_pos h1, if_pos h2]
    · rw [if_pos h1, if_neg h2, if_pos h1, if_neg h2, ByteArray.append_assoc]
  · by_cases h2 : q.lib = ⟨#[]⟩
    · rw [if_neg h1, if_pos h2, if_neg h1, if_pos h2]
    · rw [if_neg h1, if_neg h2, if_neg h1, if_neg h2]
theorem rest_mem {q : QName} (h : isNm q.name = true) : ∀ x ∈ (restQ q).data.toList, ¬ x = 47 := fun x hx => by
  rw [restQ] at hx
  split at hx
  · rw [ByteArray.data_append, Array.toList_append, List.mem_append] at hx
    rcases hx with hx | hx
    · exact nm_mem h x hx
    · rw [show x = 42 by simpa using hx]; decide
  · exact nm_mem h x hx
theorem rest_star {q : QName} (h : isNm q.name = true) : starB (restQ q) = q.generic ∧ starN (restQ q) = q.name := by
  have h0 := nm_pos h
  rw [restQ]
  cases hg : q.generic with
  | true =>
    rw [if_pos rfl]
    have hs : (q.name ++ ⟨#[42]⟩).size = q.name.size + 1 := by rw [ByteArray.size_append]; rfl
    have hb : starB (q.name ++ ⟨#[42]⟩) = true := by
      rw [starB, hs, Nat.add_sub_cancel, byteAt, ByteArray.data_append, Array.toList_append, List.getD_eq_getElem?_getD, List.getElem?_append_right (show q.name.data.toList.length ≤ q.name.size from Nat.le_refl _), show q.name.size - q.name.data.toList.length = 0 from Nat.sub_self _]
      simp
    refine ⟨hb, ?_⟩
    rw [starN, if_pos hb, hs, Nat.add_sub_cancel]
    apply ByteArray.ext
    apply Array.ext'
    rw [ByteArray.data_extract, Array.toList_extract, List.extract_eq_take_drop, ByteArray.data_append, Array.toList_append, List.drop_zero, Nat.sub_zero]
    exact List.take_left' rfl
  | false =>
    rw [if_neg (by decide)]
    have hb : starB q.name = false := by
      rw [starB, decide_eq_false (nm_byte h (show q.name.size - 1 < q.name.size by omega)).2, Bool.and_false]
    exact ⟨hb, by rw [starN, if_neg (by rw [hb]; decide)]⟩
theorem parse_fmt {q : QName} (h : badQ q = false) : parseE (fmt q) = (q, 0, 0) := by
  rw [badQ, Bool.or_eq_false_iff] at h
  have hn : isNm q.name = true := by simpa using h.2
  have hl := h.1
  have hm := rest_mem hn
  obtain ⟨st1, st2⟩ := rest_star hn
  have hr0 : 0 < (restQ q).size := by
    have := nm_pos hn
    rw [restQ]; split
    · rw [ByteArray.size_append]; omega
    · exact this
  have hne : ∀ s : ByteArray, 0 < s.size → ¬ s = ⟨#[]⟩ := fun s h e => by rw [e] at h; exact absurd h (by decide)
  rw [fmt_eq]
  generalize hR : restQ q = R at *
  by_cases e : q.lib = ⟨#[]⟩
  · rw [if_pos e]
    have hs : slash R = -1 := ixb_no 47 _ hm
    have hc : cutF R = false := by rw [cutF, hs]; rfl
    have hp : pRest R = R := by rw [pRest, if_neg (by rw [hc]; decide)]
    rw [parseE, if_neg (hne _ hr0), if_neg (fun z => by rw [hc] at z; cases z.1), hp, st2, if_neg (by rw [hn]; decide), pLib, if_neg (by rw [hc]; decide), st1, ← e]
  · rw [if_neg e]
    rw [decide_eq_true e, Bool.true_and, Bool.and_eq_false_iff] at hl
    have hL : ∀ x ∈ q.lib.data.toList, ¬ x = 47 := by
      rcases hl with hl | hl
      · exact sp_mem (by simpa using hl)
      · exact nm_mem (by simpa using hl)
    have hd : (q.lib ++ ⟨#[47]⟩ ++ R).data.toList = q.lib.data.toList ++ 47 :: R.data.toList := by
      rw [ByteArray.data_append, ByteArray.data_append, Array.toList_append, Array.toList_append, List.append_assoc]; rfl
    have hz : (q.lib ++ ⟨#[47]⟩ ++ R).size = q.lib.size + 1 + R.size := by rw [ByteArray.size_append, ByteArray.size_append]; rfl
    have hs : slash (q.lib ++ ⟨#[47]⟩ ++ R) = (q.lib.size : Int) := by rw [slash, hd, ixb_at 47 _ _ hL]; rfl
    have hc : cutF (q.lib ++ ⟨#[47]⟩ ++ R) = true := by rw [cutF, hs]; simp
    have hA : cutA (q.lib ++ ⟨#[47]⟩ ++ R) = q.lib := by
      rw [cutA, hs, if_pos (by omega), Int.toNat_natCast]
      apply ByteArray.ext
      apply Array.ext'
      rw [ByteArray.data_extract, Array.toList_extract, List.extract_eq_take_drop, hd, List.drop_zero, Nat.sub_zero]
      exact List.take_left' rfl
    have hB : cutB (q.lib ++ ⟨#[47]⟩ ++ R) = R := by
      rw [cutB, hs, if_pos (by omega), Int.toNat_natCast, hz]
      apply ByteArray.ext
      apply Array.ext'
      rw [ByteArray.data_extract, Array.toList_extract, List.extract_eq_take_drop, hd]
      have : (q.lib.data.toList ++ 47 :: R.data.toList).drop (q.lib.size + 1) = R.data.toList := by
        rw [List.drop_append, List.drop_eq_nil_of_le (by show q.lib.data.toList.length ≤ _; exact Nat.le_succ _), List.nil_append]
        rw [show q.lib.size + 1 - q.lib.data.toList.length = 1 from by show q.lib.size + 1 - q.lib.size = 1; omega]; rfl
      rw [this, List.take_of_length_le (by show R.size ≤ _; omega)]
    have hp : pRest (q.lib ++ ⟨#[47]⟩ ++ R) = R := by rw [pRest, if_pos hc, hB]
    rw [parseE, if_neg (hne _ (by omega)), if_neg ?_, hp, st2, if_neg (by rw [hn]; decide), pLib, if_pos hc, hA, st1]
    rintro ⟨_, z1, z2⟩
    rw [hA] at z1 z2
    rcases hl with hl | hl
    · rw [z1] at hl; cases hl
    · rw [z2] at hl; cases hl

-- moving back
theorem place_at {l : List Obj} (h : Sorted l) {i : Nat} (hi : i < l.length) : placeIx l (nth l i).name = (i : Int) := by
  have h1 : (l.any fun o => decide (o.name = (nth l i).name)) = true := List.any_eq_true.2 ⟨nth l i, nth_mem hi, by simp⟩
  rw [← findIx_any (fun o : Obj => decide (o.name = (nth l i).name)) l 0, decide_eq_true_eq] at h1
  obtain ⟨j, hj⟩ : ∃ j : Nat, placeIx l (nth l i).name = (j : Int) := ⟨_, (Int.toNat_of_nonneg h1).symm⟩
  have h2 := place_name hj
  have hlt := findIx_ge (fun o : Obj => decide (o.name = (nth l i).name)) l 0
  have hj2 : j < l.length := by
    have e : findIx (fun o : Obj => decide (o.name = (nth l i).name)) l 0 = (j : Int) := hj
    rw [e] at hlt; omega
  rw [hj]
  have hp := List.pairwise_iff_getElem.1 h
  rcases Nat.lt_trichotomy i j with q | q | q
  · have := hp i j hi hj2 q
    rw [← nth_eq hi, ← nth_eq hj2, h2, nLt_irrefl] at this; cases this
  · rw [q]
  · have := hp j i hj2 hi q
    rw [← nth_eq hi, ← nth_eq hj2, h2, nLt_irrefl] at this; cases this
theorem back_move {d : Dir} {n : OName} {s : ByteArray} (hd : DirOk d) (h : moveE d n s = 0) : moveE (movedD d n s) ⟨s, n.name, n.type⟩ n.lib = 0 ∧ movedD (movedD d n s) ⟨s, n.name, n.type⟩ n.lib = d := by
  have hk := (kept_move hd h).1
  rw [moveE] at h
  have h1 : foundE d n 1 = 0 := Classical.byContradiction fun z => by rw [if_pos z] at h; exact z h
  rw [if_neg (not_not_intro h1)] at h
  have h2 : libE d.objects s = 0 := Classical.byContradiction fun z => by rw [if_pos z] at h; exact z h
  rw [if_neg (not_not_intro h2)] at h
  have h3 : ¬ 0 ≤ placeIx d.objects ⟨s, n.name, n.type⟩ := fun z => by rw [if_pos z] at h; cases h
  clear h
  have hfo := foundE_ok h1
  obtain ⟨i, hx, hi⟩ := findP_ok hfo.1
  have hnm := (findE_ok hfo.1).2.1
  have hn := place_name hx
  have hm := nth_mem hi
  have hno : ∀ a ∈ d.objects, ¬ a.name = (⟨s, n.name, n.type⟩ : OName) := place_no h3
  have hW := without_sub d.objects hi
  have hperm : d.objects.Perm (nth d.objects i :: withoutL d.objects i) := by
    conv => lhs; rw [split_at hi]
    exact List.perm_middle
  -- the object that was moved
  have hD : movedD d n s = ⟨insO { nth d.objects i with name := ⟨s, n.name, n.type⟩ } (withoutL d.objects i), d.next⟩ := by rw [movedD, hx, Int.toNat_natCast]
  rw [hD] at hk ⊢
  obtain ⟨O, hO⟩ : ∃ O : Obj, O = { nth d.objects i with name := ⟨s, n.name, n.type⟩ } := ⟨_, rfl⟩
  rw [← hO] at hk ⊢
  have o2 : O.name = ⟨s, n.name, n.type⟩ := by rw [hO]
  have hOm : O ∈ insO O (withoutL d.objects i) := insO_mem.2 (.inl rfl)
  obtain ⟨k, hkl, hke⟩ := List.getElem_of_mem hOm
  have hkn : nth (insO O (withoutL d.objects i)) k = O := by rw [nth_eq hkl, hke]
  have hsrt : Sorted (insO O (withoutL d.objects i)) := hk.sorted
  have hpl : placeIx (insO O (withoutL d.objects i)) ⟨s, n.name, n.type⟩ = (k : Int) := by
    have := place_at hsrt hkl
    rwa [hkn, o2] at this
  have hY : (insO O (withoutL d.objects i)).Perm (O :: withoutL (insO O (withoutL d.objects i)) k) := by
    conv => lhs; rw [split_at hkl, hkn]
    exact List.perm_middle
  have hWp : (withoutL (insO O (withoutL d.objects i)) k).Perm (withoutL d.objects i) := List.Perm.cons_inv (hY.symm.trans (insO_perm O _))
  have hW1 : ∀ x ∈ withoutL d.objects i, ¬ x.name = n := by
    intro x hx
    have hp := (hperm.pairwise_iff (R := fun a b : Obj => ¬ a.name = b.name) fun {x y} q e => q e.symm).1 (hd.sorted.imp fun {a b} q e => by rw [e, nLt_irrefl] at q; cases q)
    intro e
    exact (List.pairwise_cons.1 hp).1 x hx (by rw [hn, e])
  refine ⟨?_, ?_⟩
  · have herr : errName (⟨s, n.name, n.type⟩ : OName) = 0 := by
      have := errObj_of (hk.errs O hOm)
      rwa [o2] at this
    have hf : findE (⟨insO O (withoutL d.objects i), d.next⟩ : Dir) ⟨s, n.name, n.type⟩ = 0 := by
      rw [findE, if_neg (not_not_intro (dirOk_iff.2 hk)), if_neg (not_not_intro herr), if_neg (by rw [hpl]; omega)]
    have hfd : foundE (⟨insO O (withoutL d.objects i), d.next⟩ : Dir) ⟨s, n.name, n.type⟩ 1 = 0 := by
      rw [foundE, if_neg (not_not_intro hf), if_neg (by rw [hfo.2]; decide)]
    have hnl : isNm n.lib = true := by
      rw [errName] at hnm
      split at hnm
      · cases hnm
      split at hnm
      · cases hnm
      · rename_i z; simpa using z
    obtain ⟨t, ht, htt⟩ := errName_type hnm
    have hsy : isSys n.type = false := by
      rw [Bool.eq_false_iff]; intro z
      have := sys_no_move t ht (by rw [← htt]; exact z)
      have hp := hfo.2
      rw [htt, Int.toNat_natCast, this] at hp; cases hp
    have hlb : hasLib (insO O (withoutL d.objects i)) n.lib = true := by
      have := hd.libs _ hm
      rw [hn] at this
      refine hasL_iff.2 ?_
      rcases this with e | ⟨x, hx, e⟩
      · exact .inl e
      · refine .inr ⟨x, insO_mem.2 (.inr ?_), e⟩
        rcases List.mem_cons.1 (hperm.mem_iff.1 hx) with rfl | q
        · exfalso
          rw [hn] at e
          rw [e] at hsy
          have hz : isSys 0 = false := hsy
          exact absurd hz (by decide)
        · exact q
    have hl : libE (insO O (withoutL d.objects i)) n.lib = 0 := by rw [libE, if_neg (by rw [hnl]; decide), if_neg (by rw [hlb]; decide)]
    have hpn : ¬ 0 ≤ placeIx (insO O (withoutL d.objects i)) ⟨n.lib, n.name, n.type⟩ := by
      intro z
      obtain ⟨j, hj⟩ : ∃ j : Nat, placeIx (insO O (withoutL d.objects i)) ⟨n.lib, n.name, n.type⟩ = (j : Int) := ⟨_, (Int.toNat_of_nonneg z).symm⟩
      have h5 := findIx_any (fun o : Obj => decide (o.name = (⟨n.lib, n.name, n.type⟩ : OName))) (insO O (withoutL d.objects i)) 0
      rw [show decide (0 ≤ findIx (fun o : Obj => decide (o.name = (⟨n.lib, n.name, n.type⟩ : OName))) (insO O (withoutL d.objects i)) 0) = true from decide_eq_true z] at h5
      obtain ⟨x, hx2, e⟩ := List.any_eq_true.1 h5.symm
      have e := of_decide_eq_true e
      rcases insO_mem.1 hx2 with rfl | hx2
      · rw [o2] at e
        exact hno _ hm (by rw [hn]; exact e.symm)
      · exact hW1 x hx2 e
    show moveE _ _ _ = 0
    rw [moveE, if_neg (not_not_intro hfd), if_neg (not_not_intro hl), if_neg hpn]
  · rw [movedD]
    show (⟨insO { nth (insO O (withoutL d.objects i)) (placeIx (insO O (withoutL d.objects i)) ⟨s, n.name, n.type⟩).toNat with name := ⟨n.lib, n.name, n.type⟩ } (withoutL (insO O (withoutL d.objects i)) (placeIx (insO O (withoutL d.objects i)) ⟨s, n.name, n.type⟩).toNat), d.next⟩ : Dir) = d
    rw [hpl, Int.toNat_natCast, hkn]
    have hQ : ({ O with name := ⟨n.lib, n.name, n.type⟩ } : Obj) = nth d.objects i := by
      rw [hO]
      show (⟨n, _, _, _, _⟩ : Obj) = _
      rw [← hn]
    rw [hQ]
    have : insO (nth d.objects i) (withoutL (insO O (withoutL d.objects i)) k) = d.objects := by
      refine sorted_unique ?_ ?_ hd.sorted
      · exact (insO_perm _ _).trans ((hWp.cons _).trans hperm.symm)
      · have hs1 : Sorted (withoutL (insO O (withoutL d.objects i)) k) := hsrt.sublist (without_sub _ hkl)
        have hs2 := insO_sorted (o := nth d.objects i) hs1 fun a ha => by rw [hn]; exact hW1 a (hWp.mem_iff.1 ha)
        exact hs2.imp fun {a b} q => by
          rw [Bool.eq_false_iff]; intro z
          have := nLt_trans q z
          rw [nLt_irrefl] at this; cases this
    rw [this]

-- an entry added and removed
theorem ixb_ins {U : List ByteArray} {s : ByteArray} (h : (U.any fun p => decide (p = s)) = false) : ∀ {k b : Nat}, k ≤ U.length → findIx (fun p => decide (p = s)) (insS U k s) b = ((b + k : Nat) : Int) := by
  induction U with
  | nil =>
    intro k b hk
    have : k = 0 := by simpa using hk
    subst this
    rw [insS, List.take_nil, List.nil_append, findIx, if_pos (by simp)]; rfl
  | cons a U ih =>
    intro k b hk
    rw [List.any_cons, Bool.or_eq_false_iff] at h
    cases k with
    | zero => rw [insS, List.take_zero, List.nil_append, findIx, if_pos (by simp)]; rfl
    | succ k =>
      have e : insS (a :: U) (k + 1) s = a :: insS U k s := by rw [insS, insS, List.take_succ_cons, List.drop_succ_cons]; rfl
      rw [e, findIx, if_neg (by rw [h.1]; decide), ih h.2 (by rw [List.length_cons] at hk; omega)]
      congr 1; omega
theorem without_ins {U : List ByteArray} {s : ByteArray} {k : Nat} (hk : k ≤ U.length) : withoutS (insS U k s) k = U := by
  have ht : (List.take k U).length = k := by rw [List.length_take]; omega
  rw [withoutS, insS, List.take_left' ht, List.drop_append, List.drop_eq_nil_of_le (by omega), ht, show k + 1 - k = 1 by omega, List.nil_append]
  show _ ++ List.drop k U = U
  exact List.take_append_drop k U

theorem list_iff {d : Dir} {all : List ByteArray} : (∀ i, i < all.length → listI d all i = 0) ↔ (∀ a ∈ all, libE d.objects a = 0) ∧ all.Pairwise fun a b => ¬ a = b := by
  have key : ∀ i, i < all.length → (listI d all i = 0 ↔ libE d.objects (nth all i) = 0 ∧ ∀ j, j < i → ¬ nth all j = nth all i) := fun i hi => by
    have hany : ((all.take i).any fun p => decide (p = nth all i)) = true ↔ ∃ j, j < i ∧ nth all j = nth all i := by
      rw [List.any_eq_true]
      constructor
      · rintro ⟨p, hp, e⟩
        obtain ⟨j, hj, e2⟩ := List.getElem_of_mem hp
        rw [List.length_take] at hj
        refine ⟨j, by omega, ?_⟩
        rw [nth_eq (show j < all.length by omega), ← List.getElem_take (h := by rw [List.length_take]; omega), e2]
        exact of_decide_eq_true e
      · rintro ⟨j, hj, e⟩
        refine ⟨nth all j, ?_, by rw [e]; simp⟩
        rw [nth_eq (show j < all.length by omega), ← List.getElem_take (j := i) (h := by rw [List.length_take]; omega)]
        exact List.getElem_mem _
    rw [listI]
    by_cases h1 : libE d.objects (nth all i) = 0
    · rw [if_neg (not_not_intro h1)]
      by_cases h2 : ((all.take i).any fun p => decide (p = nth all i)) = true
      · rw [if_pos h2]
        obtain ⟨j, hj, e⟩ := hany.1 h2
        exact ⟨fun h => absurd h (by decide), fun h => absurd e (h.2 j hj)⟩
      · rw [if_neg h2]
        exact ⟨fun _ => ⟨h1, fun j hj e => h2 (hany.2 ⟨j, hj, e⟩)⟩, fun _ => rfl⟩
    · rw [if_pos h1]
      exact ⟨fun h => absurd h h1, fun h => absurd h.1 h1⟩
  constructor
  · intro h
    refine ⟨fun a ha => ?_, List.pairwise_iff_getElem.2 fun i j hi hj hij => ?_⟩
    · obtain ⟨i, hi, rfl⟩ := List.getElem_of_mem ha
      rw [← nth_eq hi]
      exact ((key i hi).1 (h i hi)).1
    · have := ((key j hj).1 (h j hj)).2 i hij
      rwa [nth_eq hi, nth_eq hj] at this
  · rintro ⟨h1, h2⟩ i hi
    refine (key i hi).2 ⟨h1 _ (nth_mem hi), fun j hj => ?_⟩
    have := List.pairwise_iff_getElem.1 h2 j i (by omega) hi hj
    rwa [← nth_eq, ← nth_eq] at this
theorem back_add {d : Dir} {l : LList} {x : LEntry} (h : addE d l x = 0) (h4 : ¬ x.pos = 4) :
    remE d (addP d l x) x.lib = 0 ∧ remP d (addP d l x) x.lib = l ∧ (addP d l x).system.length ≤ 5 ∧ (addP d l x).user.length ≤ 8 := by
  have hP : addP d l x = ⟨l.system, l.current, insS (leftU l x) (addK l x) x.lib⟩ := by rw [addP, if_pos h]
  have hU : leftU l x = l.user := by rw [leftU, if_neg (fun z => h4 z.1)]
  rw [addE] at h
  have hL : (listE d l).2 = 0 := Classical.byContradiction fun z => by rw [if_pos z] at h; exact z h
  rw [if_neg (not_not_intro hL)] at h
  have hlib : libE d.objects x.lib = 0 := Classical.byContradiction fun z => by rw [if_pos z] at h; exact z h
  rw [if_neg (not_not_intro hlib), addE2] at h
  split at h
  · cases h
  rename_i q1
  split at h
  · cases h
  split at h
  · cases h
  rename_i q3
  split at h
  · cases h
  rename_i q4
  split at h
  · cases h
  rename_i q5
  clear h
  rw [hU] at q4 q5 hP
  have hix := ixS_range l.user x.ref
  have hK : addK l x ≤ l.user.length := by
    rw [addK, hU]
    split
    · exact Nat.zero_le _
    split
    · exact Nat.le_refl _
    rename_i p0 p1
    have hb : byRefB x.pos = true := by
      have : x.pos = 2 ∨ x.pos = 3 := by omega
      rcases this with e | e <;> rw [e] <;> rfl
    have h0 : ¬ ixS l.user x.ref < 0 := fun z => q3 ⟨hb, z⟩
    split <;> omega
  generalize addK l x = K at *
  rw [hP]
  have hne : (l.user.any fun p => decide (p = x.lib)) = false := Bool.eq_false_iff.2 fun z => q4 (.inr z)
  have hnes : (l.system.any fun p => decide (p = x.lib)) = false := Bool.eq_false_iff.2 fun z => q4 (.inl z)
  have hall := list_iff.1 fun i hi => listE_all hL hi
  have hperm : (l.system ++ insS l.user K x.lib).Perm (x.lib :: (l.system ++ l.user)) := by
    have h1 : (insS l.user K x.lib).Perm (x.lib :: l.user) := by
      rw [insS]
      have : (x.lib :: l.user) = x.lib :: (l.user.take K ++ l.user.drop K) := by rw [List.take_append_drop]
      rw [this]; exact List.perm_middle
    exact (h1.append_left l.system).trans List.perm_middle
  have hsz : l.system.length ≤ 5 ∧ l.user.length ≤ 8 := by
    rw [listE] at hL
    split at hL
    · rename_i z; exact absurd hL z
    split at hL
    · cases hL
    · omega
  have hil := insS_len (s := x.lib) hK
  have hL2 : (listE d ⟨l.system, l.current, insS l.user K x.lib⟩).2 = 0 := by
    have hz : scanI (listI d (l.system ++ insS l.user K x.lib)) (l.system ++ insS l.user K x.lib).length 0 = (0, 0) := by
      refine scanI_allz _ _ fun j _ hj => ?_
      refine list_iff.2 ⟨fun a ha => ?_, (hperm.pairwise_iff fun {x y} q e => q e.symm).2 (List.pairwise_cons.2 ⟨fun a ha e => ?_, hall.2⟩)⟩ j (by omega)
      · rcases List.mem_cons.1 (hperm.mem_iff.1 ha) with rfl | ha
        · exact hlib
        · exact hall.1 a ha
      · subst e
        rcases List.mem_append.1 ha with ha | ha
        · rw [List.any_eq_false] at hnes
          exact absurd (decide_eq_true rfl) (hnes _ ha)
        · rw [List.any_eq_false] at hne
          exact absurd (decide_eq_true rfl) (hne _ ha)
    rw [listE] at hL ⊢
    split at hL
    · rename_i z; exact absurd hL z
    rename_i z1
    split at hL
    · cases hL
    split at hL
    · rw [if_neg z1, if_neg (by show ¬ (5 < l.system.length ∨ 8 < (insS l.user K x.lib).length); omega)]
      show (if (scanI (listI d (l.system ++ insS l.user K x.lib)) (l.system ++ insS l.user K x.lib).length 0).2 = 0 then (((l.system ++ insS l.user K x.lib).length : Int), curE d l.current) else _).2 = 0
      rw [hz, if_pos rfl]
      exact hL
    · rename_i z; exact absurd hL z
  have hk : ixS (insS l.user K x.lib) x.lib = (K : Int) := by
    rw [ixS, ixb_ins hne hK, Nat.zero_add]
  have hR : remE d ⟨l.system, l.current, insS l.user K x.lib⟩ x.lib = 0 := by
    rw [remE, if_neg (not_not_intro hL2), if_neg (by rw [hk]; omega)]
  refine ⟨hR, ?_, hsz.1, by show (insS l.user K x.lib).length ≤ 8; omega⟩
  rw [remP, if_pos hR]
  show (⟨l.system, l.current, withoutS (insS l.user K x.lib) (ixS (insS l.user K x.lib) x.lib).toNat⟩ : LList) = l
  rw [hk, Int.toNat_natCast, without_ins hK]
end Go.Proofs.YtppjmigiogddpaaGreat.C08
