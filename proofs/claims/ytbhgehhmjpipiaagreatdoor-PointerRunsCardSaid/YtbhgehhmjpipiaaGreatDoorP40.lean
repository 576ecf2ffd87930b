/- Chapter 12: states that are checked are right, and right ones pass the check; the bytes of the pointer in a quadword are the quadword. -/
import Derived.Test.YtbhgehhmjpipiaaGreatDoorG7
import Derived.Test.YtbhgehhmjpipiaaGreatDoorE7c
set_option linter.unusedSimpArgs false
set_option linter.unusedVariables false
namespace Go.Proofs.YtbhgehhmjpipiaaGreatDoor.C12
open Go Go.Proofs Go.Proofs.YtbhgehhmjpipiaaGreatDoor.Ab Go.Proofs.YtbhgehhmjpipiaaGreatDoor.C10
theorem bigL_snoc (l : List UInt8) (b : UInt8) : bigL (l ++ [b]) = bigL l * 256 + (b.toNat : Int) := by unfold bigL; rw [bigGo_snoc]
theorem snoc_of {α : Type} : ∀ {n : Nat} {l : List α}, l.length = n + 1 → ∃ m b, l = m ++ [b] ∧ m.length = n := fun {n l} h => by
 have hne : l ≠ [] := by intro e; rw [e] at h; cases h
 exact ⟨l.dropLast, l.getLast hne, (List.dropLast_concat_getLast hne).symm, by rw [List.length_dropLast, h]; rfl⟩
theorem bigB_bigL : ∀ (n : Nat) (l : List UInt8), l.length = n → bigB (bigL l) n = l
 | 0, l, h => by rw [List.length_eq_zero_iff.1 h]; rfl
 | n + 1, l, h => by
   obtain ⟨m, b, rfl, hm⟩ := snoc_of h
   have ih := bigB_bigL n m hm
   have hb : b.toNat < 256 := b.toNat_lt
   have h0 := (bigL_rng m).1
   rw [bigB, bigL_snoc, show (bigL m * 256 + (b.toNat : Int)) / 256 = bigL m by omega, show (bigL m * 256 + (b.toNat : Int)) % 256 = (b.toNat : Int) by omega, ih]
   simp
theorem list16 (l : List UInt8) (h : l.length = 16) : l = [l.getD 0 0, l.getD 1 0] ++ (l.drop 2).take 2 ++ (l.drop 4).take 6 ++ (l.drop 10).take 6 := by
 match l, h with
 | [_, _, _, _, _, _, _, _, _, _, _, _, _, _, _, _], _ => rfl
theorem ptrB_ptrIn {q : ByteArray} (h : (ptrIn q).2 = 0) : ptrB (ptrIn q).1 = q := by
 apply toL_inj
 unfold ptrB
 rw [toL_ofL]
 unfold ptrIn ptrInL at *
 generalize toL q = l at *
 split at h
 · cases h
 rename_i h1
 split at h
 · cases h
 rename_i h2
 split at h
 · exact absurd h (by assumption)
 rename_i h3
 rw [if_neg h1, if_neg h2, if_neg h3]
 have h1' := Classical.not_not.1 h1
 have h2' := Classical.not_not.1 h2
 have e := list16 l h1'
 have e1 : l.getD 1 0 = 0 := by
  apply UInt8.toNat_inj.1
  have : (l.getD 1 0).toNat = 0 := by omega
  rw [this]; rfl
 unfold ptrL ptrOfL
 simp only
 rw [bigB_bigL 2 _ (by simp [h1']), bigB_bigL 6 _ (by simp [h1']), bigB_bigL 6 _ (by simp [h1'])]
 have e0 : UInt8.ofNat ((l.getD 0 0).toNat : Int).toNat = l.getD 0 0 := by simp
 rw [e0]
 rw [e1] at e
 exact e.symm
theorem scanH {C : CC} {q : Nat → Nat} {l : List Stg} {base : Nat} {fin : Int × Int} : ∀ {n i : Nat}, (scanG C q l base fin n i).2 = 0 → (∀ k, i ≤ k → k < i + n → stoE C (nth l k) (q k) = 0) ∧ fin.2 = 0
 | 0, i, h => ⟨fun k h1 h2 => by omega, h⟩
 | n + 1, i, h => by
   unfold scanG at h
   split at h
   · rename_i e
     obtain ⟨g1, g2⟩ := scanH (n := n) (i := i + 1) h
     refine ⟨fun k h1 h2 => ?_, g2⟩
     by_cases hk : k = i
     · subst hk; exact e
     · exact g1 k (by omega) (by omega)
   · rename_i e
     exact absurd h e
theorem scanH_of {C : CC} {q : Nat → Nat} {l : List Stg} {base : Nat} {fin : Int × Int} : ∀ {n i : Nat}, (∀ k, i ≤ k → k < i + n → stoE C (nth l k) (q k) = 0) → scanG C q l base fin n i = fin
 | 0, i, h => rfl
 | n + 1, i, h => by
   unfold scanG
   rw [if_pos (h i (Nat.le_refl _) (by omega))]
   exact scanH_of fun k h1 h2 => h k (by omega) (by omega)
theorem scanS_of {s : Stg} : ∀ {n i : Nat}, (∀ k, i ≤ k → k < i + n → nth s.tags k = true → (ptrIn (quadB s.bytes k)).2 = 0) → (scanS s n i).2 = 0
 | 0, i, h => rfl
 | n + 1, i, h => by
   have ih := scanS_of (s := s) (n := n) (i := i + 1) fun k h1 h2 => h k (by omega) (by omega)
   unfold scanS
   split
   · rename_i e
     rw [if_pos (h i (Nat.le_refl _) (by omega) e)]; exact ih
   · exact ih
theorem stgE_ok {s : Stg} (h : SOk s) : (stgE s).2 = 0 := by
 have h1 := h.size
 have h2 := h.small
 unfold stgE
 rw [if_neg (by omega), if_neg (by omega), if_neg (by omega)]
 exact scanS_of fun k _ hk ht => h.ptr k (by omega) ht
theorem stg_view (s : Stg) (k : Nat) : s.view k = if nth s.tags k = true then some (ptrIn (quadB s.bytes k)).1 else none := rfl
theorem badP_no {C : CC} {p : Ptr} : badP C p = false ↔ PtrOk C p := by
 have e : badP C p = false ↔ ¬ p.kind = 2 ∧ p.off = 0 ∧ inB (p.seg - 1) 0 ((C.O : Int) - 1) = true ∧ (p.kind = 0 → C.sp (p.seg - 1) = true) := by
  unfold badP
  cases C.sp (p.seg - 1) <;> cases inB (p.seg - 1) 0 ((C.O : Int) - 1) <;> simp [Bool.or_eq_false_iff, Decidable.imp_iff_not_or, and_assoc]
 have e2 : inB (p.seg - 1) 0 ((C.O : Int) - 1) = true ↔ 1 ≤ p.seg ∧ p.seg ≤ (C.O : Int) := by
  unfold inB
  rw [decide_eq_true_eq]; omega
 rw [e, e2]
 exact ⟨fun ⟨a, b, c, d⟩ => ⟨a, b, c, d⟩, fun h => ⟨h.kind, h.off, h.seg, h.space⟩⟩
theorem stgV_of {C : CC} {s : Stg} {q : Nat} (h : stoE C s q = 0) : StgV C q s := by
 unfold stoE at h
 split at h
 · rename_i a; exact absurd h a
 rename_i a
 have ha := Classical.not_not.1 a
 split at h
 · cases h
 rename_i b
 have hb := Classical.not_not.1 b
 split at h
 · cases h
 rename_i d
 have hok := sok_of ha
 refine ⟨⟨by rw [hok.size, hb], hb, fun k hk ht => hok.ptr k (by omega) ht⟩, fun k p hv => ?_⟩
 rw [stg_view] at hv
 split at hv
 · rename_i ht
   cases hv
   have hk : k < s.tags.length := by
    rcases Nat.lt_or_ge k s.tags.length with r | r
    · exact r
    · rw [nth, List.getD_eq_getElem?_getD, List.getElem?_eq_none r] at ht; cases ht
   have hm : (ptrIn (quadB s.bytes k)).1 ∈ ptrP s s.tags.length := List.mem_map.2 ⟨k, tagK_mem.2 ⟨hk, ht⟩, rfl⟩
   refine badP_no.1 (Bool.eq_false_iff.2 fun hb2 => d (List.any_eq_true.2 ⟨_, hm, hb2⟩))
 · cases hv
theorem stgE_of {C : CC} {s : Stg} {q : Nat} (hq : q ≤ 64) (h : StgV C q s) : stoE C s q = 0 := by
 have hok : SOk s := ⟨by rw [h.ok.size, h.ok.tags], by rw [h.ok.tags]; exact hq, fun k hk ht => h.ok.ptr k (by have := h.ok.tags; omega) ht⟩
 unfold stoE
 rw [if_neg (not_not_intro (stgE_ok hok)), if_neg (not_not_intro h.ok.tags), if_neg]
 intro hb
 obtain ⟨p, hp, hb⟩ := List.any_eq_true.1 hb
 obtain ⟨k, hk, rfl⟩ := List.mem_map.1 hp
 have hk2 := (tagK_mem.1 hk).2
 have hv : s.view k = some (ptrIn (quadB s.bytes k)).1 := by rw [stg_view, if_pos hk2]
 have := badP_no.2 (h.ptr k _ hv)
 rw [this] at hb; cases hb
theorem stv_of {c : Case} {s : St} (h : (stE c s).2 = 0) : StV (cc c) s ∧ (caseE c).2 = 0 := by
 unfold stE at h
 split at h
 · rename_i q; exact absurd h q
 rename_i q
 have he := Classical.not_not.1 q
 split at h
 · cases h
 rename_i q2
 have hq := Classical.not_not.1 q2
 unfold scanA at h
 obtain ⟨h1, h2⟩ := scanH h
 unfold scanB at h2
 obtain ⟨h3, _⟩ := scanH h2
 refine ⟨⟨hq.1, hq.2, fun j hj => ?_, fun k hk => ?_⟩, he⟩
 · have hj' : j < s.jobs.length := by rw [hq.1]; exact hj
   exact stgV_of (h1 j (Nat.zero_le _) (by omega))
 · have hk' : k < s.spaces.length := by rw [hq.2]; exact hk
   exact stgV_of (h3 k (Nat.zero_le _) (by omega))
theorem ste_of {c : Case} {s : St} (he : (caseE c).2 = 0) (h : StV (cc c) s) : (stE c s).2 = 0 := by
 have hJ : s.jobs.length = c.users.length := h.nj
 have hO : s.spaces.length = c.sec.objects.length := h.ns
 unfold stE
 rw [if_neg (not_not_intro he), if_neg (not_not_intro ⟨hJ, hO⟩)]
 unfold scanA
 rw [scanH_of fun k _ hk => stgE_of (by decide) (h.job k (by have := h.nj; omega))]
 unfold scanB
 rw [scanH_of fun k _ hk => stgE_of (by unfold quadsC; split <;> omega) (h.sp k (by have := h.ns; omega))]
theorem clear_win {l : List Bool} {a n : Nat} (hn : 0 < n) (h : (a + n - 1) / 16 + 1 ≤ l.length) :
 l.take (a / 16) ++ List.replicate ((a + n - 1) / 16 + 1 - a / 16) false ++ l.drop (a / 16 + ((a + n - 1) / 16 + 1 - a / 16)) = clearT l a n := by
 have hab : a / 16 ≤ (a + n - 1) / 16 := Nat.div_le_div_right (by omega)
 generalize hA : a / 16 = A at *
 generalize hB : (a + n - 1) / 16 = B at *
 have hl1 : (l.take A).length = A := by rw [List.length_take]; omega
 apply List.ext_getElem?
 intro j
 unfold clearT
 rw [List.getElem?_mapIdx]
 have ht : touch a n j = (decide (A ≤ j) && decide (j ≤ B)) := by
  unfold touch; rw [hA, hB, decide_eq_true hn, Bool.true_and]
 rw [ht]
 rcases Nat.lt_or_ge j A with q | q
 · rw [List.getElem?_append_left (by rw [List.length_append, hl1]; omega), List.getElem?_append_left (by omega), List.getElem?_take_of_lt q, decide_eq_false (show ¬ A ≤ j by omega)]
   cases l[j]? <;> simp
 · rcases Nat.lt_or_ge j (B + 1) with r | r
   · rw [List.getElem?_append_left (by rw [List.length_append, hl1, List.length_replicate]; omega), List.getElem?_append_right (by omega), hl1, List.getElem?_replicate, if_pos (by omega), decide_eq_true q, decide_eq_true (show j ≤ B by omega), List.getElem?_eq_getElem (by omega)]
     simp
   · rw [List.getElem?_append_right (by rw [List.length_append, hl1, List.length_replicate]; omega), List.length_append, hl1, List.length_replicate, List.getElem?_drop, show A + (B + 1 - A) + (j - (A + (B + 1 - A))) = j by omega, decide_eq_false (show ¬ j ≤ B by omega)]
     cases l[j]? <;> simp
theorem incB_nat {a b : Nat} (ha : a ≤ 1023) (hb : b ≤ 1023) : incB (a : Int) (b : Int) = true ↔ a &&& b = b := by
 have h := (bits_nat .i64 10 (by decide) (fun n h1 h2 => by rw [IntKind.wrap_i64]; omega) a b (by omega) (by omega)).1
 unfold incB
 rw [h, decide_eq_true_eq]
 omega
theorem Sorted.nodup {l : List Cap} (h : Sorted l) : l.Nodup := by
 refine h.imp fun {a b} hab e => ?_
 rw [e, Cap.lt_irrefl] at hab; cases hab
theorem sorted_le {l m : List Cap} (hl : Sorted l) (h : ∀ x ∈ l, x ∈ m) : l.length ≤ m.length := nodup_le hl.nodup h
theorem u8_wrap {x : Int} (h : 0 ≤ x) : IntKind.wrap .u8 (Int.tmod x 256) = ((UInt8.ofNat (x % 256).toNat).toNat : Int) := by
 have e : Int.tmod x 256 = x % 256 := Int.tmod_eq_emod_of_nonneg h
 have h1 : (UInt8.ofNat (x % 256).toNat).toNat = (x % 256).toNat := by
  rw [UInt8.toNat_ofNat']
  exact Nat.mod_eq_of_lt (by omega)
 rw [e, h1]
 unfold IntKind.wrap
 simp [IntKind.signed, IntKind.bits]
 omega
def bigR (x : Int) (n i : Nat) : List UInt8 := List.replicate (n - i) 0 ++ bigB x i
theorem bigB_shift : ∀ (i : Nat) (x : Int), bigB x (i + 1) = UInt8.ofNat (x / 256 ^ i % 256).toNat :: bigB x i
 | 0, x => by simp [bigB]
 | i + 1, x => by
   have h := bigB_shift i (x / 256)
   have e : x / 256 / 256 ^ i = x / 256 ^ (i + 1) := by
    rw [Int.ediv_ediv_of_nonneg (by decide), Int.pow_succ, Int.mul_comm]
   rw [bigB, h, e]
   rfl
theorem bigR_step {x : Int} {n i : Nat} (h : i < n) : (bigR x n i).set (n - 1 - i) (UInt8.ofNat (x / 256 ^ i % 256).toNat) = bigR x n (i + 1) := by
 obtain ⟨m, rfl⟩ : ∃ m, n = i + 1 + m := ⟨n - i - 1, by omega⟩
 unfold bigR
 rw [show i + 1 + m - i = m + 1 by omega, show i + 1 + m - 1 - i = m by omega, show i + 1 + m - (i + 1) = m by omega, bigB_shift, List.replicate_succ', List.append_assoc, List.set_append_right _ _ (by rw [List.length_replicate]; exact Nat.le_refl _), List.length_replicate, Nat.sub_self]
 rfl
theorem zero_bytes (n : Nat) : List.replicate n [AV.int .u8 0] = (List.replicate n (0 : UInt8)).map encByte := by rw [List.map_replicate]; rfl
theorem u8_cut {x : Int} : IntKind.wrap .u8 x = ((UInt8.ofNat (x % 256).toNat).toNat : Int) := by
 have h1 : (UInt8.ofNat (x % 256).toNat).toNat = (x % 256).toNat := by
  rw [UInt8.toNat_ofNat']
  exact Nat.mod_eq_of_lt (by omega)
 rw [h1]
 unfold IntKind.wrap
 simp [IntKind.signed, IntKind.bits]
 omega
theorem shr_bytes {x : Int} (hx : 0 ≤ x) {i : Nat} (hi : i < 8) : x.fdiv (2 ^ min (8 * i) 64) = x / 256 ^ i := by
 rw [Nat.min_eq_left (by omega), Int.pow_mul, show (2 : Int) ^ 8 = 256 from rfl, Int.fdiv_eq_ediv_of_nonneg _ (Int.le_of_lt (Int.pow_pos (by decide)))]
theorem clearT_zero (l : List Bool) (a : Nat) : clearT l a 0 = l := by
 unfold clearT
 apply List.ext_getElem?
 intro j
 rw [List.getElem?_mapIdx]
 cases l[j]? <;> simp [touch]
theorem touch_step (a i j : Nat) : touch a (i + 1) j = (touch a i j || decide (j = (a + i) / 16)) := by
 rw [Bool.eq_iff_iff]
 simp only [touch, Bool.and_eq_true, Bool.or_eq_true, decide_eq_true_eq]
 omega
theorem clearT_step {l : List Bool} {a i : Nat} (h : (a + i) / 16 < l.length) : (clearT l a i).set ((a + i) / 16) false = clearT l a (i + 1) := by
 unfold clearT
 apply List.ext_getElem?
 intro j
 rw [List.getElem?_set, List.getElem?_mapIdx, List.getElem?_mapIdx, List.length_mapIdx]
 by_cases hj : (a + i) / 16 = j
 · subst hj
   rw [if_pos rfl, if_pos h, List.getElem?_eq_getElem h]
   simp [touch_step]
 · rw [if_neg hj]
   have : decide (j = (a + i) / 16) = false := decide_eq_false fun e => hj e.symm
   cases l[j]? <;> simp [touch_step, this]
structure StSz (s : St) : Prop where
 j : s.jobs.length ≤ 1000
 p : s.spaces.length ≤ 1000
 jt : ∀ x ∈ s.jobs, x.tags.length ≤ 1000 ∧ x.bytes.size = 16 * x.tags.length
 pt : ∀ x ∈ s.spaces, x.tags.length ≤ 1000 ∧ x.bytes.size = 16 * x.tags.length
theorem sok_v {s : Stg} {n : Nat} (h : s.Ok n) (hn : n ≤ 64) : SOk s :=
 ⟨by rw [h.size, h.tags], by rw [h.tags]; exact hn, fun k hk ht => h.ptr k (by have := h.tags; omega) ht⟩
theorem ok_size {s : Stg} {n : Nat} (h : s.Ok n) (hn : n ≤ 64) : s.tags.length ≤ 1000 ∧ s.bytes.size = 16 * s.tags.length := by
 have := sok_v h hn
 exact ⟨by have := this.small; omega, this.size⟩
theorem quadsC_le (C : CC) (k : Nat) : quadsC C k ≤ 60 := by unfold quadsC; split <;> omega
theorem stSz_of {C : CC} {s : St} (hJ : C.J ≤ 3) (hO : C.O ≤ 5) (h : StV C s) : StSz s := by
 have h1 := h.nj
 have h2 := h.ns
 refine ⟨by omega, by omega, fun x hx => ?_, fun x hx => ?_⟩
 · obtain ⟨j, hj, rfl⟩ := List.mem_iff_getElem.1 hx
   have := (h.job j (by omega)).ok
   have e : s.jobs.getD j default = s.jobs[j] := by simp [List.getD_eq_getElem?_getD, hj]
   rw [e] at this
   exact ok_size this (by decide)
 · obtain ⟨j, hj, rfl⟩ := List.mem_iff_getElem.1 hx
   have := (h.sp j (by omega)).ok
   have e : s.spaces.getD j default = s.spaces[j] := by simp [List.getD_eq_getElem?_getD, hj]
   rw [e] at this
   exact ok_size this (by have := quadsC_le C j; omega)
def stR (r : St × Int) : AV := if r.2 = 0 then .agg (encSt r.1) else .agg [.nils, .nils]
theorem stR_ok (s : St) : stR (s, 0) = .agg (encSt s) := rfl
theorem stR_no (s : St) {e : Int} (h : ¬ e = 0) : stR (s, e) = .agg [.nils, .nils] := by unfold stR; rw [if_neg h]
structure Fm (c : Case) (s : St) (o : COp) (j : Nat) : Prop where
 job : o.job = (j : Int)
 hj : j < c.users.length
 hjs : j < s.jobs.length
 sok : SOk (nth s.jobs j)
 t60 : (nth s.jobs j).tags.length = 60
 ste : (stgE (nth s.jobs j)).2 = 0
 sz : StSz s
 bad : badF (cc c) o = false
 kind : 0 ≤ o.kind ∧ o.kind ≤ 8
structure Spc (c : Case) (s : St) (p : Ptr) (m : Nat) : Prop where
 seg : p.seg - 1 = (m : Int)
 sp : spB c (p.seg - 1) = true
 hos : m < s.spaces.length
 sok : SOk (nth s.spaces m)
 t60 : (nth s.spaces m).tags.length = 60
 ste : (stgE (nth s.spaces m)).2 = 0
structure Pt (c : Case) (s : St) (o : COp) (j a : Nat) (p : Ptr) : Prop where
 at_ : atI o = (a : Int)
 a60 : a ≤ 59
 tag : nth (nth s.jobs j).tags a = true
 ptr : (ptrIn (quadB (nth s.jobs j).bytes a)).1 = p
 ok : PtrOk (cc c) p
 e : ptrE p = 0
structure Steps (c : Case) (s : St) (o : COp) (A : AV → Int → Prop) : Prop where
 kind : ¬ (0 ≤ o.kind ∧ o.kind ≤ 8) → A (.agg [.nils, .nils]) 4
 job : (0 ≤ o.kind ∧ o.kind ≤ 8) → ¬ (0 ≤ o.job ∧ o.job < (c.users.length : Int)) → A (.agg [.nils, .nils]) 3
 bad : (0 ≤ o.kind ∧ o.kind ≤ 8) → (0 ≤ o.job ∧ o.job < (c.users.length : Int)) → badF (cc c) o = true → A (.agg [.nils, .nils]) 3
 no0 : ∀ j k d : Nat, Fm c s o j → o.kind = 0 → o.object = (k : Int) → o.dst = (d : Int) → k < c.sec.objects.length → d ≤ 59 → auI c j k = 0 → A (.agg [.nils, .nils]) 23
 ok0 : ∀ j k d : Nat, Fm c s o j → o.kind = 0 → o.object = (k : Int) → o.dst = (d : Int) → k < c.sec.objects.length → d ≤ 59 → ¬ auI c j k = 0 → (0 ≤ auI c j k ∧ auI c j k ≤ 1023) → A (.agg (encSt ⟨s.jobs.set j (setQ (nth s.jobs j) d (ptrB ⟨1, (k : Int) + 1, 0, auI c j k⟩) true), s.spaces⟩)) 0
 ok1 : ∀ j d : Nat, Fm c s o j → o.kind = 1 → o.dst = (d : Int) → d + o.data.size ≤ 960 → A (.agg (encSt ⟨s.jobs.set j (wrS (nth s.jobs j) d o.data), s.spaces⟩)) 0
 ok2 : ∀ j a d : Nat, Fm c s o j → o.kind = 2 → o.src = (a : Int) → o.dst = (d : Int) → a ≤ 59 → d ≤ 59 → A (.agg (encSt ⟨s.jobs.set j (setQ (nth s.jobs j) d (quadB (nth s.jobs j).bytes a) (nth (nth s.jobs j).tags a)), s.spaces⟩)) 0
 ok3 : ∀ j a d : Nat, Fm c s o j → o.kind = 3 → o.src = (a : Int) → o.dst = (d : Int) → a ≤ 59 → d ≤ 59 → A (.agg (encSt ⟨s.jobs.set j (setQ (nth s.jobs j) d (quadB (nth s.jobs j).bytes a) false), s.spaces⟩)) 0
 tag : ∀ j a : Nat, Fm c s o j → 4 ≤ o.kind → atI o = (a : Int) → a ≤ 59 → nth (nth s.jobs j).tags a = false → A (.agg [.nils, .nils]) 22
 pkind : ∀ (j a : Nat) (p : Ptr), Fm c s o j → 4 ≤ o.kind → Pt c s o j a p → ¬ p.kind = kdI o → A (.agg [.nils, .nils]) 17
 space : ∀ (j a : Nat) (p : Ptr), Fm c s o j → 5 ≤ o.kind → Pt c s o j a p → p.kind = kdI o → (0 ≤ p.seg - 1 ∧ p.seg - 1 < (c.sec.objects.length : Int)) → spB c (p.seg - 1) = false → A (.agg [.nils, .nils]) 17
 auth : ∀ (j a m : Nat) (p : Ptr), Fm c s o j → 5 ≤ o.kind → o.kind ≤ 7 → Pt c s o j a p → p.kind = 1 → Spc c s p m → incB p.auth (needI o) = false → A (.agg [.nils, .nils]) 23
 ok4 : ∀ (j a : Nat) (p : Ptr), Fm c s o j → o.kind = 4 → Pt c s o j a p → p.kind = 1 → (0 ≤ o.auth ∧ o.auth ≤ 1023) → A (.agg (encSt ⟨s.jobs.set j (setQ (nth s.jobs j) a (ptrB ⟨p.kind, p.seg, p.off, andI p.auth o.auth⟩) true), s.spaces⟩)) 0
 ok5 : ∀ (j a m d : Nat) (p : Ptr), Fm c s o j → o.kind = 5 → Pt c s o j a p → p.kind = 1 → Spc c s p m → incB p.auth 128 = true → o.dst = (d : Int) → d ≤ 59 → A (.agg (encSt ⟨s.jobs.set j (setQ (nth s.jobs j) d (ptrB ⟨0, p.seg, p.off, 0⟩) true), s.spaces⟩)) 0
 ok6 : ∀ (j a m b d : Nat) (p : Ptr), Fm c s o j → o.kind = 6 → Pt c s o j a p → p.kind = 1 → Spc c s p m → incB p.auth 128 = true → o.src = (b : Int) → b ≤ 59 → o.dst = (d : Int) → d ≤ 59 → A (.agg (encSt ⟨s.jobs, s.spaces.set m (setQ (nth s.spaces m) d (quadB (nth s.jobs j).bytes b) (nth (nth s.jobs j).tags b))⟩)) 0
 ok7 : ∀ (j a m b d : Nat) (p : Ptr), Fm c s o j → o.kind = 7 → Pt c s o j a p → p.kind = 1 → Spc c s p m → incB p.auth 32 = true → o.src = (b : Int) → b ≤ 59 → o.dst = (d : Int) → d ≤ 59 → A (.agg (encSt ⟨s.jobs.set j (setQ (nth s.jobs j) d (quadB (nth s.spaces m).bytes b) (nth (nth s.spaces m).tags b)), s.spaces⟩)) 0
 ok8 : ∀ (j a m d : Nat) (p : Ptr), Fm c s o j → o.kind = 8 → Pt c s o j a p → p.kind = 0 → Spc c s p m → o.dst = (d : Int) → d + o.data.size ≤ 960 → A (.agg (encSt ⟨s.jobs, s.spaces.set m (wrS (nth s.spaces m) d o.data)⟩)) 0
theorem zero_and {a : Int} (h : 0 ≤ a ∧ a ≤ 1023) : Go.bits .and .i64 a 0 = 0 := by
 obtain ⟨x, rfl⟩ := Int.eq_ofNat_of_zero_le h.1
 have h := (bits_nat .i64 10 (by decide) (fun n h1 h2 => by rw [IntKind.wrap_i64]; omega) x 0 (by omega) (by omega)).1
 exact h.trans (by simp)
theorem incB_zero {a : Int} (h : 0 ≤ a ∧ a ≤ 1023) : incB a 0 = true := by unfold incB; rw [zero_and h]; rfl
theorem step_all {c : Case} (h : Right c) {s : St} (hv : StV (cc c) s) {o : COp} {A : AV → Int → Prop} (W : Steps c s o A) : A (stR (stepS (cc c) s o)) (stepS (cc c) s o).2 := by
 have hJ : (cc c).J = c.users.length := rfl
 have hO : (cc c).O = c.sec.objects.length := rfl
 by_cases hk : 0 ≤ o.kind ∧ o.kind ≤ 8
 case neg =>
  have e : stepS (cc c) s o = (zSt, 4) := by unfold stepS; rw [if_pos hk]
  rw [e, stR_no _ (by decide)]; exact W.kind hk
 by_cases hj : 0 ≤ o.job ∧ o.job < (c.users.length : Int)
 case neg =>
  have e : stepS (cc c) s o = (zSt, 3) := by unfold stepS; rw [if_neg (not_not_intro hk), if_pos (show ¬ (0 ≤ o.job ∧ o.job < ((cc c).J : Int)) from hj)]
  rw [e, stR_no _ (by decide)]; exact W.job hk hj
 by_cases hb : badF (cc c) o = true
 case pos =>
  have e : stepS (cc c) s o = (zSt, 3) := by unfold stepS; rw [if_neg (not_not_intro hk), if_neg (show ¬ ¬ (0 ≤ o.job ∧ o.job < ((cc c).J : Int)) from not_not_intro hj), if_pos hb]
  rw [e, stR_no _ (by decide)]; exact W.bad hk hj hb
 have hf := fok_of hk hj (Bool.eq_false_iff.2 hb)
 obtain ⟨j, hje⟩ : ∃ j : Nat, o.job = (j : Int) := ⟨o.job.toNat, by omega⟩
 have hjn : o.job.toNat = j := by omega
 have hjs := hv.nj
 have hps := hv.ns
 have hjv := hv.job j (by omega)
 have hjo : SOk (nth s.jobs j) := sok_v hjv.ok (by decide)
 have hF : Fm c s o j := ⟨hje, by omega, by omega, hjo, hjv.ok.tags, stgE_ok hjo, stSz_of (by have := h.J; omega) (by have := h.O; omega) hv, Bool.eq_false_iff.2 hb, hk⟩
 have hown : s.own o = nth s.jobs j := by unfold St.own nth; rw [hjn]
 have hstep : stepS (cc c) s o = (if o.kind = 0 then (if (cc c).au o.job.toNat o.object.toNat = 0 then (zSt, 23) else (setJ s o (setQ (s.own o) o.dst.toNat (ptrB ⟨1, o.object + 1, 0, (cc c).au o.job.toNat o.object.toNat⟩) true), 0))
  else if o.kind = 1 then (setJ s o (wrS (s.own o) o.dst.toNat o.data), 0)
  else if o.kind = 2 then (setJ s o (setQ (s.own o) o.dst.toNat (quadB (s.own o).bytes o.src.toNat) ((s.own o).tag o.src.toNat)), 0)
  else if o.kind = 3 then (setJ s o (setQ (s.own o) o.dst.toNat (quadB (s.own o).bytes o.src.toNat) false), 0)
  else byPS (cc c) s o) := by
  unfold stepS; rw [if_neg (not_not_intro hk), if_neg (show ¬ ¬ (0 ≤ o.job ∧ o.job < ((cc c).J : Int)) from not_not_intro hj), if_neg hb]
 rw [hstep, hown]
 have hset : ∀ x, setJ s o x = ⟨s.jobs.set j x, s.spaces⟩ := fun x => by unfold setJ; rw [hjn]
 by_cases k0 : o.kind = 0
 · rw [if_pos k0]
   have hd := hf.dst (by omega) (by omega) (by omega)
   have hob := hf.object k0
   obtain ⟨d, hde⟩ : ∃ d : Nat, o.dst = (d : Int) := ⟨o.dst.toNat, by omega⟩
   obtain ⟨k, hke⟩ : ∃ k : Nat, o.object = (k : Int) := ⟨o.object.toNat, by omega⟩
   have hau : (cc c).au o.job.toNat o.object.toNat = auI c j k := by rw [hjn, show o.object.toNat = k by omega]; rfl
   rw [hau]
   by_cases ha : auI c j k = 0
   · rw [if_pos ha, stR_no _ (by decide)]
     exact W.no0 j k d hF k0 hke hde (by omega) (by omega) ha
   · rw [if_neg ha, stR_ok, hset, show o.dst.toNat = d by omega, hke]
     exact W.ok0 j k d hF k0 hke hde (by omega) (by omega) ha (h.aut.au j k (by omega) (by omega))
 rw [if_neg k0]
 by_cases k1 : o.kind = 1
 · rw [if_pos k1]
   have hd := hf.data (.inl k1)
   obtain ⟨d, hde⟩ : ∃ d : Nat, o.dst = (d : Int) := ⟨o.dst.toNat, by omega⟩
   rw [stR_ok, hset, show o.dst.toNat = d by omega]
   exact W.ok1 j d hF k1 hde (by omega)
 rw [if_neg k1]
 by_cases k2 : o.kind = 2
 · rw [if_pos k2]
   have hd := hf.dst (by omega) (by omega) (by omega)
   have hs := hf.src (by omega) (by omega)
   obtain ⟨d, hde⟩ : ∃ d : Nat, o.dst = (d : Int) := ⟨o.dst.toNat, by omega⟩
   obtain ⟨a, hae⟩ : ∃ d : Nat, o.src = (d : Int) := ⟨o.src.toNat, by omega⟩
   rw [stR_ok, hset, show o.dst.toNat = d by omega, show o.src.toNat = a by omega]
   exact W.ok2 j a d hF k2 hae hde (by omega) (by omega)
 rw [if_neg k2]
 by_cases k3 : o.kind = 3
 · rw [if_pos k3]
   have hd := hf.dst (by omega) (by omega) (by omega)
   have hs := hf.src (by omega) (by omega)
   obtain ⟨d, hde⟩ : ∃ d : Nat, o.dst = (d : Int) := ⟨o.dst.toNat, by omega⟩
   obtain ⟨a, hae⟩ : ∃ d : Nat, o.src = (d : Int) := ⟨o.src.toNat, by omega⟩
   rw [stR_ok, hset, show o.dst.toNat = d by omega, show o.src.toNat = a by omega]
   exact W.ok3 j a d hF k3 hae hde (by omega) (by omega)
 rw [if_neg k3]
 have k4 : 4 ≤ o.kind := by omega
 have hat := atI_rng hf k4
 obtain ⟨a, hae⟩ : ∃ a : Nat, atI o = (a : Int) := ⟨(atI o).toNat, by omega⟩
 unfold byPS
 rw [hown, show (atI o).toNat = a by omega, stg_view]
 cases ht : nth (nth s.jobs j).tags a with
 | false =>
   rw [if_neg (by decide)]
   simp only
   rw [stR_no _ (by decide)]
   exact W.tag j a hF k4 hae (by omega) ht
 | true =>
 rw [if_pos rfl]
 simp only
 obtain ⟨p, hp⟩ : ∃ p, (ptrIn (quadB (nth s.jobs j).bytes a)).1 = p := ⟨_, rfl⟩
 rw [hp]
 have hview : (nth s.jobs j).view a = some p := by rw [stg_view, if_pos ht, hp]
 have hpo := hjv.ptr a p hview
 have hpe := ptrIn_err (hjo.ptr a (by have := hF.t60; omega) ht)
 rw [hp] at hpe
 have hP : Pt c s o j a p := ⟨hae, by omega, ht, hp, hpo, hpe⟩
 have hseg := hpo.seg
 by_cases q1 : p.kind = kdI o
 case neg =>
  rw [if_pos (.inl q1), stR_no _ (by decide)]
  exact W.pkind j a p hF k4 hP q1
 by_cases q2 : o.kind = 4
 · have e1 : kdI o = 1 := by unfold kdI; rw [if_neg (by omega)]
   have e2 : needI o = 0 := by unfold needI; rw [if_pos (.inr q2)]
   have hpa := (ptrE_ok.1 hpe).2.2.2.1
   rw [if_neg (by rintro (r | r); exact r q1; exact r.1 q2), e2, if_neg (by rw [show (cc c).inc p.auth 0 = incB p.auth 0 from rfl, incB_zero hpa]; decide), stR_ok]
   unfold byP
   have hsrc : o.src.toNat = a := by
    have e3 : atI o = o.src := by unfold atI; rw [if_pos (.inl q2)]
    omega
   rw [if_pos q2, hset, hown, hsrc]
   exact W.ok4 j a p hF q2 hP (by rw [q1, e1]) (hf.auth q2)
 have k5 : 5 ≤ o.kind := by omega
 cases hsp : spB c (p.seg - 1) with
 | false =>
   rw [if_pos (.inr ⟨q2, hsp⟩), stR_no _ (by decide)]
   exact W.space j a p hF k5 hP q1 ⟨by omega, by omega⟩ hsp
 | true =>
 rw [if_neg (by rintro (r | r); exact r q1; exact absurd (hsp.symm.trans r.2) (by decide))]
 obtain ⟨m, hme⟩ : ∃ m : Nat, p.seg - 1 = (m : Int) := ⟨(p.seg - 1).toNat, by omega⟩
 have hov := hv.sp m (by omega)
 have hq60 : quadsC (cc c) m = 60 := by unfold quadsC; rw [← hme, show (cc c).sp (p.seg - 1) = spB c (p.seg - 1) from rfl, if_pos hsp]
 rw [hq60] at hov
 have hmo : SOk (nth s.spaces m) := sok_v hov.ok (by decide)
 have hS : Spc c s p m := ⟨hme, hsp, by omega, hmo, hov.ok.tags, stgE_ok hmo⟩
 have hsn : (p.seg - 1).toNat = m := by omega
 have hspm : s.sp m = nth s.spaces m := rfl
 have hpa := (ptrE_ok.1 hpe).2.2.2.1
 have hinc : ∀ n, (cc c).inc p.auth n = incB p.auth n := fun _ => rfl
 rw [hinc]
 by_cases q8 : o.kind = 8
 · have e1 : kdI o = 0 := by unfold kdI; rw [if_pos q8]
   have e2 : needI o = 0 := by unfold needI; rw [if_pos (.inl q8)]
   rw [e2, if_neg (by rw [incB_zero hpa]; decide), stR_ok]
   unfold byP
   rw [if_neg (by omega), if_neg (by omega), if_neg (by omega), if_neg (by omega), hsn, hspm]
   have hd := hf.data (.inr q8)
   obtain ⟨d, hde⟩ : ∃ d : Nat, o.dst = (d : Int) := ⟨o.dst.toNat, by omega⟩
   rw [show o.dst.toNat = d by omega]
   exact W.ok8 j a m d p hF q8 hP (by rw [q1, e1]) hS hde (by omega)
 have e1 : kdI o = 1 := by unfold kdI; rw [if_neg q8]
 rw [e1] at q1
 cases hi : incB p.auth (needI o) with
 | false =>
   rw [if_pos rfl, stR_no _ (by decide)]
   exact W.auth j a m p hF k5 (by omega) hP q1 hS hi
 | true =>
 rw [if_neg (by decide), stR_ok]
 unfold byP
 rw [if_neg q2]
 have hd := hf.dst (by omega) (by omega) (by omega)
 obtain ⟨d, hde⟩ : ∃ d : Nat, o.dst = (d : Int) := ⟨o.dst.toNat, by omega⟩
 have hs := hf.src (by omega) (by omega)
 obtain ⟨b, hbe⟩ : ∃ d : Nat, o.src = (d : Int) := ⟨o.src.toNat, by omega⟩
 by_cases q5 : o.kind = 5
 · rw [if_pos q5, hset, hown, show o.dst.toNat = d by omega]
   have e2 : needI o = 128 := by unfold needI; rw [if_neg (by omega), if_neg (by omega)]
   rw [e2] at hi
   exact W.ok5 j a m d p hF q5 hP q1 hS hi hde (by omega)
 rw [if_neg q5]
 by_cases q6 : o.kind = 6
 · rw [if_pos q6, hown, hsn, hspm, show o.dst.toNat = d by omega, show o.src.toNat = b by omega]
   have e2 : needI o = 128 := by unfold needI; rw [if_neg (by omega), if_neg (by omega)]
   rw [e2] at hi
   exact W.ok6 j a m b d p hF q6 hP q1 hS hi hbe (by omega) hde (by omega)
 have q7 : o.kind = 7 := by omega
 have e2 : needI o = 32 := by unfold needI; rw [if_neg (by omega), if_pos q7]
 rw [e2] at hi
 rw [if_neg q6, if_pos q7, hset, hown, hsn, hspm, show o.dst.toNat = d by omega, show o.src.toNat = b by omega]
 exact W.ok7 j a m b d p hF q7 hP q1 hS hi hbe (by omega) hde (by omega)
end Go.Proofs.YtbhgehhmjpipiaaGreatDoor.C12
