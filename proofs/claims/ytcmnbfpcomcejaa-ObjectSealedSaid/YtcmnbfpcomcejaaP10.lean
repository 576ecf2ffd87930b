/- Chapter 8: the plain law of actions: what is right stays right. -/
import Derived.Test.YtcmnbfpcomcejaaC23
namespace Go.Proofs.Ytcmnbfpcomcejaa.C08
open Go Go.Proofs Go.Proofs.Ytcmnbfpcomcejaa.Ab
set_option linter.unusedSimpArgs false
set_option linter.unusedVariables false

def HasL (l : List Obj) (n : ByteArray) : Prop := n = qsys ∨ ∃ x ∈ l, x.name = ⟨qsys, n, 0⟩
theorem hasL_iff {l : List Obj} {n : ByteArray} : hasLib l n = true ↔ HasL l n := by
  rw [hasLib, Bool.or_eq_true, decide_eq_true_eq, placeIx, findIx_any (fun o : Obj => decide (o.name = ⟨qsys, n, 0⟩)) l 0, List.any_eq_true]
  constructor
  · rintro (h | ⟨x, hx, h⟩)
    · exact .inl h
    · exact .inr ⟨x, hx, of_decide_eq_true h⟩
  · rintro (h | ⟨x, hx, h⟩)
    · exact .inl h
    · exact .inr ⟨x, hx, decide_eq_true h⟩

structure DirOk (d : Dir) : Prop where
  len : d.objects.length ≤ 40
  next : 1 ≤ d.next ∧ d.next ≤ 10000
  sorted : Sorted d.objects
  segs : d.objects.Pairwise fun a b => ¬ a.seg = b.seg
  errs : ∀ o ∈ d.objects, errObj o = 0
  range : ∀ o ∈ d.objects, 1 ≤ o.seg ∧ o.seg < d.next
  libs : ∀ o ∈ d.objects, HasL d.objects o.name.lib

theorem scanI_all {f : Nat → Int} : ∀ (k i : Nat), (∀ j, i ≤ j → j < i + k → f j = 0) → scanI f k i = (0, 0)
  | 0, i, _ => rfl
  | k + 1, i, h => by rw [scanI, if_pos (h i (Nat.le_refl _) (by omega)), scanI_all k (i + 1) fun j h1 h2 => h j (by omega) (by omega)]
theorem dirOk_iff {d : Dir} : (dirE d).2 = 0 ↔ DirOk d := by
  constructor
  · intro h
    have hk := dirE_ok h
    have hi : ∀ o ∈ d.objects, ∃ i, i < d.objects.length ∧ o = nth d.objects i ∧ ObjOk d i := fun o ho => by
      obtain ⟨i, hi, rfl⟩ := List.getElem_of_mem ho
      exact ⟨i, hi, (nth_eq hi).symm, (objE_ok hi).1 (dirE_objs h hi)⟩
    refine ⟨hk.1, hk.2, dir_sorted h, ?_, fun o ho => ?_, fun o ho => ?_, fun o ho => ?_⟩
    · rw [List.pairwise_iff_getElem]
      intro i j h1 h2 hij
      have := ((objE_ok h2).1 (dirE_objs h h2)).once i hij
      rwa [nth_eq h1, nth_eq h2] at this
    · obtain ⟨i, _, rfl, q⟩ := hi o ho; exact q.err
    · obtain ⟨i, _, rfl, q⟩ := hi o ho; exact q.seg
    · obtain ⟨i, _, rfl, q⟩ := hi o ho; exact hasL_iff.1 q.lib
  · intro h
    have h1 := h.len; have h2 := h.next
    have hz : scanI (objE d) d.objects.length 0 = (0, 0) := scanI_all _ _ fun j _ hj => by
      have hj : j < d.objects.length := by omega
      have hm := nth_mem hj
      refine (objE_ok hj).2 ⟨h.errs _ hm, h.range _ hm, fun h0 => ?_, fun k hk => ?_, hasL_iff.2 (h.libs _ hm)⟩
      · have := List.pairwise_iff_getElem.1 h.sorted (j - 1) j (by omega) hj (by omega)
        rwa [← nth_eq, ← nth_eq] at this
      · have := List.pairwise_iff_getElem.1 h.segs k j (by omega) hj hk
        rwa [← nth_eq, ← nth_eq] at this
    rw [dirE, if_neg (by omega), if_neg (by omega), hz, if_pos rfl]

theorem seg_inj {l : List Obj} (h : l.Pairwise fun a b => ¬ a.seg = b.seg) {a b : Obj} (ha : a ∈ l) (hb : b ∈ l) (e : a.seg = b.seg) : a = b := by
  obtain ⟨i, hi, h1⟩ := List.getElem_of_mem ha
  obtain ⟨j, hj, h2⟩ := List.getElem_of_mem hb
  have hp := List.pairwise_iff_getElem.1 h
  rcases Nat.lt_trichotomy i j with q | q | q
  · have := hp i j hi hj q
    rw [h1, h2] at this; exact absurd e this
  · subst q; rw [← h1, ← h2]
  · have := hp j i hj hi q
    rw [h1, h2] at this; exact absurd e.symm this

structure Step (d x : Dir) : Prop where
  ok : DirOk x
  next : d.next ≤ x.next
  old : ∀ p ∈ x.objects, (p.seg = d.next ∧ d.next < x.next) ∨ ∃ q ∈ d.objects, q.seg = p.seg ∧ q.name.type = p.name.type ∧ q.owner = p.owner ∧ q.text = p.text ∧
    (permR q.name.type.toNat 5 = false → permR q.name.type.toNat 7 = false → p.content = q.content)

theorem step_create {d : Dir} {o : Obj} (hd : DirOk d) (h : createE2 d o = 0) : Step d ⟨insO { o with seg := d.next } d.objects, d.next + 1⟩ := by
  obtain ⟨h1, h2, h3, h4, h5⟩ := createE2_ok h
  have hno := place_no h4
  have hl := hd.len; have hn := hd.next
  refine ⟨⟨?_, ?_, ?_, ?_, ?_, ?_, ?_⟩, ?_, ?_⟩
  · show (insO _ _).length ≤ 40
    rw [insO_len]; omega
  · show 1 ≤ d.next + 1 ∧ d.next + 1 ≤ 10000
    omega
  · exact insO_sorted hd.sorted hno
  · refine ((insO_perm { o with seg := d.next } d.objects).pairwise_iff fun {x y} q e => q e.symm).2 (List.pairwise_cons.2 ⟨fun a ha e => ?_, hd.segs⟩)
    have := hd.range a ha
    have e' : d.next = a.seg := e
    omega
  · intro x hx
    rcases insO_mem.1 hx with rfl | hx
    · exact h1
    · exact hd.errs x hx
  · intro x hx
    rcases insO_mem.1 hx with rfl | hx
    · show 1 ≤ d.next ∧ d.next < d.next + 1
      omega
    · have := hd.range x hx
      show 1 ≤ x.seg ∧ x.seg < d.next + 1
      omega
  · have hm : ∀ n, HasL d.objects n → HasL (insO { o with seg := d.next } d.objects) n := fun n q => by
      rcases q with q | ⟨x, hx, q⟩
      · exact .inl q
      · exact .inr ⟨x, insO_mem.2 (.inr hx), q⟩
    intro x hx
    rcases insO_mem.1 hx with rfl | hx
    · exact hm _ (hasL_iff.1 h3)
    · exact hm _ (hd.libs x hx)
  · show d.next ≤ d.next + 1
    omega
  · intro p hp
    rcases insO_mem.1 hp with rfl | hp
    · exact .inl ⟨rfl, by show d.next < d.next + 1; omega⟩
    · exact .inr ⟨p, hp, rfl, rfl, rfl, rfl, fun _ _ => rfl⟩

theorem split_at {l : List Obj} {i : Nat} (h : i < l.length) : l = l.take i ++ nth l i :: l.drop (i + 1) := by
  rw [nth_eq h, ← List.drop_eq_getElem_cons h, List.take_append_drop]
theorem without_sub (l : List Obj) {i : Nat} (h : i < l.length) : (withoutL l i).Sublist l := by
  conv => rhs; rw [split_at h]
  exact (List.Sublist.refl _).append (List.sublist_cons_self _ _)
theorem step_destroy {d : Dir} {n : OName} (hd : DirOk d) (h : destroyE d n = 0) : Step d ⟨withoutL d.objects (placeIx d.objects n).toNat, d.next⟩ := by
  have hf : findE d n = 0 := by
    rw [destroyE] at h
    split at h
    · rename_i q; exact absurd h q
    · rename_i q; exact Classical.not_not.1 q
  have hu : ¬ usedB d.objects n = true := by
    rw [destroyE, if_neg (not_not_intro hf)] at h
    split at h
    · cases h
    · assumption
  obtain ⟨i, hx, hi, hp⟩ := findP_ok hf
  rw [hx, Int.toNat_natCast]
  have hsub := without_sub d.objects hi
  have hname := place_name hx
  refine ⟨⟨?_, hd.next, hd.sorted.sublist hsub, hd.segs.sublist hsub, fun o ho => hd.errs o (hsub.mem ho), fun o ho => hd.range o (hsub.mem ho), fun o ho => ?_⟩, Int.le_refl _, fun p hp => .inr ⟨p, hsub.mem hp, rfl, rfl, rfl, rfl, fun _ _ => rfl⟩⟩
  · exact Nat.le_trans hsub.length_le hd.len
  · rcases hd.libs o (hsub.mem ho) with q | ⟨x, hx, q⟩
    · exact .inl q
    · refine .inr ⟨x, ?_, q⟩
      rw [split_at hi] at hx
      rcases List.mem_append.1 hx with hx | hx
      · exact List.mem_append.2 (.inl hx)
      · rcases List.mem_cons.1 hx with rfl | hx
        · refine absurd ?_ hu
          rw [hname] at q
          rw [usedB, q, Bool.and_eq_true, decide_eq_true_eq]
          exact ⟨rfl, List.any_eq_true.2 ⟨o, hsub.mem ho, decide_eq_true rfl⟩⟩
        · exact List.mem_append.2 (.inr hx)

theorem setC_mem {l : List Obj} {i : Nat} {s : ByteArray} {p : Obj} (h : p ∈ setC l i s) : p ∈ l ∨ p = { nth l i with content := s } := by
  rw [setC] at h
  exact (List.mem_or_eq_of_mem_set h)
theorem setC_get {l : List Obj} {i j : Nat} {s : ByteArray} (h : j < l.length) (h2 : j < (setC l i s).length) : (setC l i s)[j] = if i = j then { nth l i with content := s } else l[j] := by
  simp only [setC]
  rw [List.getElem_set]
theorem step_set {d : Dir} {n : OName} {s : ByteArray} {i : Nat} (hd : DirOk d) (hx : placeIx d.objects n = (i : Int)) (hi : i < d.objects.length) (hs : s.size ≤ 120) (hp : permR n.type.toNat 5 = true ∨ permR n.type.toNat 7 = true) :
    Step d ⟨setC d.objects i s, d.next⟩ := by
  have hname := place_name hx
  have hm := nth_mem hi
  have hsame : ∀ (j : Nat) (h : j < d.objects.length) (h2 : j < (setC d.objects i s).length), (setC d.objects i s)[j].name = (d.objects[j]).name ∧ (setC d.objects i s)[j].seg = (d.objects[j]).seg := fun j h h2 => by
    rw [setC_get h h2]
    split
    · rename_i e; subst e; rw [nth_eq hi]; exact ⟨rfl, rfl⟩
    · exact ⟨rfl, rfl⟩
  have hlen := setC_len d.objects i s
  refine ⟨⟨?_, hd.next, ?_, ?_, ?_, ?_, ?_⟩, Int.le_refl _, ?_⟩
  · show (setC _ _ _).length ≤ 40
    rw [hlen]; exact hd.len
  · show Sorted (setC _ _ _)
    unfold Sorted
    rw [List.pairwise_iff_getElem]
    intro a b ha hb hab
    rw [(hsame a (hlen ▸ ha) ha).1, (hsame b (hlen ▸ hb) hb).1]
    exact List.pairwise_iff_getElem.1 hd.sorted a b _ _ hab
  · show (setC _ _ _).Pairwise _
    rw [List.pairwise_iff_getElem]
    intro a b ha hb hab
    rw [(hsame a (hlen ▸ ha) ha).2, (hsame b (hlen ▸ hb) hb).2]
    exact List.pairwise_iff_getElem.1 hd.segs a b _ _ hab
  · intro o ho
    rcases setC_mem ho with ho | rfl
    · exact hd.errs o ho
    · have := hd.errs _ hm
      rw [errObj] at this ⊢
      split at this
      · rename_i q; exact absurd this q
      rename_i q1
      split at this
      · cases this
      rename_i q2
      split at this
      · cases this
      rename_i q3
      split at this
      · cases this
      rename_i q4
      rw [if_neg q1, if_neg q2, if_neg (by show ¬ (50 < (nth d.objects i).text.size ∨ 120 < s.size); omega), if_neg q4]
  · intro o ho
    rcases setC_mem ho with ho | rfl
    · exact hd.range o ho
    · exact hd.range (nth d.objects i) hm
  · have hL : ∀ L, HasL d.objects L → HasL (setC d.objects i s) L := fun L q => by
      rcases q with q | ⟨x, hx, q⟩
      · exact .inl q
      · obtain ⟨j, hj, rfl⟩ := List.getElem_of_mem hx
        have hj2 : j < (setC d.objects i s).length := by rw [hlen]; exact hj
        exact .inr ⟨(setC d.objects i s)[j], List.getElem_mem hj2, by rw [(hsame j hj hj2).1]; exact q⟩
    intro o ho
    rcases setC_mem ho with ho | rfl
    · exact hL _ (hd.libs o ho)
    · exact hL _ (hd.libs (nth d.objects i) hm)
  · intro p hp2
    rcases setC_mem hp2 with ho | rfl
    · exact .inr ⟨p, ho, rfl, rfl, rfl, rfl, fun _ _ => rfl⟩
    · refine .inr ⟨_, hm, rfl, rfl, rfl, rfl, fun q1 q2 => ?_⟩
      rw [hname] at q1 q2
      rcases hp with hp | hp
      · rw [hp] at q1; cases q1
      · rw [hp] at q2; cases q2

theorem errName_lib {m : OName} {n : OName} {s : ByteArray} (h : errName m = 0) (ht : n.type = 0) (hn : errName n = 0) (hl : m.lib = n.name) (hs : errName (toN n s) = 0) : errName ⟨s, m.name, m.type⟩ = 0 := by
  have h1 := errName_sys hn ht
  have h2 := errName_sys hs ht
  rw [errName] at h hs ⊢
  split at h
  · cases h
  rename_i q1
  split at h
  · cases h
  rename_i q2
  split at h
  · cases h
  rename_i q3
  split at h
  · cases h
  rename_i q4
  split at hs
  · cases hs
  split at hs
  · cases hs
  split at hs
  · cases hs
  rename_i q5
  have q5' : ¬ isNm s = false := q5
  rw [if_neg q1, if_neg q5', if_neg q3, if_neg]
  intro q
  apply q4
  have hne : ¬ m.lib = qsys := fun e => h1.2 (by rw [← hl, e])
  rw [clash, Bool.or_eq_true, Bool.and_eq_true, Bool.and_eq_true, decide_eq_true_eq, decide_eq_true_eq, decide_eq_true_eq] at q ⊢
  rcases q with q | q
  · exact .inl ⟨q.1, hne⟩
  · exact .inl ⟨by show isSys m.type = true; rw [show m.type = 0 from q.1]; decide, hne⟩

theorem errObj_name {o : Obj} {m : OName} (h : errObj o = 0) (hm : errName m = 0) : errObj { o with name := m } = 0 := by
  rw [errObj] at h ⊢
  split at h
  · rename_i q; exact absurd h q
  rename_i q1
  rw [if_neg (not_not_intro hm)]
  exact h
theorem errObj_of {o : Obj} (h : errObj o = 0) : errName o.name = 0 := by
  rw [errObj] at h
  split at h
  · exact h
  · rename_i q; exact Classical.not_not.1 q

theorem renM_keeps (n : OName) (s : ByteArray) (o : Obj) : (renM n s o).seg = o.seg ∧ (renM n s o).name.type = o.name.type ∧ (renM n s o).owner = o.owner ∧ (renM n s o).text = o.text ∧ (renM n s o).content = o.content := by
  rw [renM]
  split
  · exact ⟨rfl, rfl, rfl, rfl, rfl⟩
  · rw [libO]; split <;> exact ⟨rfl, rfl, rfl, rfl, rfl⟩
theorem step_rename {d : Dir} {n : OName} {s : ByteArray} (hd : DirOk d) (hf : findE d n = 0) (h : renameE2 d n s = 0) : Step d ⟨sortO (d.objects.map (renM n s)), d.next⟩ := by
  obtain ⟨hm, hp⟩ := renameE2_ok h
  have hE := dirOk_iff.2 hd
  have hn := (findE_ok hf).2.1
  obtain ⟨i, hx, hi, _⟩ := findP_ok hf
  have hname := place_name hx
  have hd2 := ren_names hE hn hm hp
  have hperm := sortO_perm (d.objects.map (renM n s))
  have hmem : ∀ o, o ∈ sortO (d.objects.map (renM n s)) ↔ ∃ q ∈ d.objects, renM n s q = o := fun o => by rw [hperm.mem_iff, List.mem_map]
  refine ⟨⟨?_, hd.next, ?_, ?_, ?_, ?_, ?_⟩, Int.le_refl _, ?_⟩
  · show (sortO _).length ≤ 40
    rw [sortO_len, List.length_map]; exact hd.len
  · show Sorted (sortO _)
    rw [← insAll_sort hd2]
    exact (insF_sort _ [] List.Pairwise.nil (fun a ha => by cases ha) hd2).1
  · refine (hperm.pairwise_iff fun {x y} q e => q e.symm).2 ?_
    rw [List.pairwise_map]
    exact hd.segs.imp fun {a b} q => by rw [(renM_keeps n s a).1, (renM_keeps n s b).1]; exact q
  · intro o ho
    obtain ⟨q, hq, rfl⟩ := (hmem o).1 ho
    have he := hd.errs q hq
    rw [renM]
    split
    · rename_i e
      refine errObj_name he ?_
      rw [e]; exact hm
    · rw [libO]
      split
      · rename_i e
        exact errObj_name he (errName_lib (errObj_of he) e.1 hn e.2 hm)
      · exact he
  · intro o ho
    obtain ⟨q, hq, rfl⟩ := (hmem o).1 ho
    rw [(renM_keeps n s q).1]; exact hd.range q hq
  · intro o ho
    obtain ⟨q, hq, rfl⟩ := (hmem o).1 ho
    -- a library that keeps its name
    have keep : ∀ L, HasL d.objects L → (n.type = 0 → ¬ L = n.name) → HasL (sortO (d.objects.map (renM n s))) L := fun L hL hne => by
      rcases hL with hL | ⟨x, hx, hL⟩
      · exact .inl hL
      · refine .inr ⟨renM n s x, (hmem _).2 ⟨x, hx, rfl⟩, ?_⟩
        rw [renM, if_neg, libO, if_neg]
        · exact hL
        · rintro ⟨e1, e2⟩
          rw [hL] at e2
          exact (errName_sys hn e1).2 e2.symm
        · intro e
          rw [hL] at e
          exact hne (by rw [← e]) (by rw [← e])
    rw [renM]
    split
    · rename_i e
      show HasL _ q.name.lib
      refine keep _ (hd.libs q hq) fun e1 e2 => ?_
      have := errName_sys hn e1
      rw [e] at e2
      exact this.2 (by rw [← e2]; exact this.1)
    · rename_i e0
      rw [libO]
      split
      · rename_i e
        refine .inr ⟨renM n s (nth d.objects i), (hmem _).2 ⟨_, nth_mem hi, rfl⟩, ?_⟩
        rw [renM, if_pos hname]
        show (⟨(nth d.objects i).name.lib, s, (nth d.objects i).name.type⟩ : OName) = ⟨qsys, s, 0⟩
        rw [hname, e.1, (errName_sys hn e.1).1]
      · rename_i e
        exact keep _ (hd.libs q hq) fun e1 e2 => e ⟨e1, e2⟩
  · intro p hp2
    obtain ⟨q, hq, rfl⟩ := (hmem p).1 hp2
    have := renM_keeps n s q
    exact .inr ⟨q, hq, this.1.symm, this.2.1.symm, this.2.2.1.symm, this.2.2.2.1.symm, fun _ _ => this.2.2.2.2⟩

theorem act_step {d : Dir} {a : Action} (hd : DirOk d) (h : actE d a = 0) : Step d (actP d a) := by
  obtain ⟨k, o, s⟩ := a
  have hE := dirOk_iff.2 hd
  rcases kind_cases k with rfl | rfl | rfl | rfl | rfl | hk
  · rw [(act0 d o s).1] at h; rw [(act0 d o s).2, createP_ins h]; exact step_create hd (createE_ok h).2
  · rw [(act1 d o s).1] at h; rw [(act1 d o s).2, destroyP, if_pos h]; exact step_destroy hd h
  · rw [(act2 d o s).1] at h; rw [(act2 d o s).2, renameP, if_pos h]
    have hk := renameE_ok h
    exact step_rename hd (foundE_ok hk.1).1 hk.2
  · rw [(act3 d o s).1] at h; rw [(act3 d o s).2, changeP, if_pos h]
    have hf : foundE d o.name 5 = 0 := by
      rw [changeE] at h
      split at h
      · rename_i q; exact absurd h q
      · rename_i q; exact Classical.not_not.1 q
    have hs : ¬ 120 < o.content.size := by
      rw [changeE, if_neg (not_not_intro hf)] at h
      split at h
      · cases h
      · assumption
    obtain ⟨i, hx, hi, _⟩ := findP_ok (foundE_ok hf).1
    rw [hx, Int.toNat_natCast]
    exact step_set hd hx hi (by omega) (.inl (foundE_ok hf).2)
  · rw [(act4 d o s).1] at h; rw [(act4 d o s).2, clearP, if_pos h]
    obtain ⟨i, hx, hi, _⟩ := findP_ok (foundE_ok h).1
    rw [hx, Int.toNat_natCast]
    exact step_set hd hx hi (by decide) (.inr (foundE_ok h).2)
  · have hk' := of_decide_eq_false hk
    rw [actE, if_neg (not_not_intro hE), if_neg (by simp only; omega), if_neg (by simp only; omega), if_neg (by simp only; omega), if_neg (by simp only; omega), if_neg (by simp only; omega)] at h
    cases h

theorem isNm_size {s : ByteArray} (h : isNm s = true) : s.size ≤ 10 := by
  rw [isNm, Bool.and_eq_true, decide_eq_true_eq] at h; omega
theorem ok_few {d : Dir} (h : DirOk d) : fewD d = true := by
  have hl := h.len
  rw [fewD, Bool.and_eq_true, decide_eq_true_eq, List.all_eq_true]
  refine ⟨by omega, fun o ho => ?_⟩
  have he := h.errs o ho
  have hn := errObj_of he
  rw [errObj, if_neg (not_not_intro hn)] at he
  split at he
  · cases he
  rename_i q1
  split at he
  · cases he
  rename_i q2
  rw [errName] at hn
  split at hn
  · cases hn
  split at hn
  · cases hn
  rename_i q3
  split at hn
  · cases hn
  rename_i q4
  have a1 := isNm_size (s := o.name.lib) (by simpa using q3)
  have a2 := isNm_size (s := o.name.name) (by simpa using q4)
  have a3 := isNm_size (s := o.owner) (by simpa using q1)
  rw [fewO, fewN]
  simp only [Bool.and_eq_true, decide_eq_true_eq]
  omega
end Go.Proofs.Ytcmnbfpcomcejaa.C08
