/- Chapter 12: plain laws of operations. -/
import Derived.Test.YtbhgehhmjpipiaaGreatDoorP37
set_option linter.unusedSimpArgs false
set_option linter.unusedVariables false
namespace Go.Proofs.YtbhgehhmjpipiaaGreatDoor.C12
structure Ptr where
 kind : Int
 seg : Int
 off : Int
 auth : Int
deriving DecidableEq, Inhabited
structure Stg where
 bytes : ByteArray
 tags : List Bool
deriving Inhabited
theorem Stg.ext' {a b : Stg} (h1 : a.bytes = b.bytes) (h2 : a.tags = b.tags) : a = b := by
 cases a; cases b; simp only at h1 h2; subst h1 h2; rfl
def bigGo : Int → List UInt8 → Int
 | n, [] => n
 | n, b :: l => bigGo (n * 256 + (b.toNat : Int)) l
def bigL (l : List UInt8) : Int := bigGo 0 l
theorem bigGo_snoc : ∀ (l : List UInt8) (n : Int) (b : UInt8), bigGo n (l ++ [b]) = bigGo n l * 256 + (b.toNat : Int)
 | [], n, b => rfl
 | a :: l, n, b => by simp only [List.cons_append, bigGo, bigGo_snoc l]
theorem bigGo_rng : ∀ (l : List UInt8) (n k : Int), 0 ≤ n → n < k → 0 ≤ bigGo n l ∧ bigGo n l < k * 256 ^ l.length
 | [], n, k, h0, h => by simp [bigGo]; omega
 | a :: l, n, k, h0, h => by
   have ha : a.toNat < 256 := a.toNat_lt
   have := bigGo_rng l (n * 256 + (a.toNat : Int)) (k * 256) (by omega) (by omega)
   simp only [bigGo, List.length_cons]
   have e : k * 256 ^ (l.length + 1) = k * 256 * 256 ^ l.length := by rw [Int.pow_succ, Int.mul_assoc, Int.mul_comm 256]
   rw [e]; exact this
theorem bigL_rng (l : List UInt8) : 0 ≤ bigL l ∧ bigL l < 256 ^ l.length := by
 have := bigGo_rng l 0 1 (by decide) (by decide)
 rwa [Int.one_mul] at this
def bigB (x : Int) : Nat → List UInt8
 | 0 => []
 | n + 1 => bigB (x / 256) n ++ [UInt8.ofNat (x % 256).toNat]
theorem bigB_len : ∀ (n : Nat) (x : Int), (bigB x n).length = n
 | 0, _ => rfl
 | n + 1, x => by simp [bigB, bigB_len n]
theorem bigL_bigB : ∀ (n : Nat) (x : Int), 0 ≤ x → x < 256 ^ n → bigL (bigB x n) = x
 | 0, x, h0, h => by simp at h; simp [bigB, bigL, bigGo]; omega
 | n + 1, x, h0, h => by
   have h1 : x / 256 < 256 ^ n := by
    rw [Int.pow_succ] at h
    exact Int.ediv_lt_of_lt_mul (by decide) h
   have ih := bigL_bigB n (x / 256) (by omega) h1
   unfold bigL at ih ⊢
   rw [bigB, bigGo_snoc, ih]
   have : (UInt8.ofNat (x % 256).toNat).toNat = (x % 256).toNat := by
    rw [UInt8.toNat_ofNat']
    exact Nat.mod_eq_of_lt (by omega)
   rw [this]; omega
def ptrE (p : Ptr) : Int := if ¬ (0 ≤ p.kind ∧ p.kind ≤ 2) then 4 else if ¬ (0 ≤ p.seg ∧ p.seg ≤ 1099511627775) ∨ ¬ (0 ≤ p.off ∧ p.off ≤ 16777215) ∨ ¬ (0 ≤ p.auth ∧ p.auth ≤ 1023) then 3 else if p.kind ≠ 1 ∧ p.auth ≠ 0 then 5 else 0
theorem ptrE_ok {p : Ptr} : ptrE p = 0 ↔ (0 ≤ p.kind ∧ p.kind ≤ 2) ∧ (0 ≤ p.seg ∧ p.seg ≤ 1099511627775) ∧ (0 ≤ p.off ∧ p.off ≤ 16777215) ∧ (0 ≤ p.auth ∧ p.auth ≤ 1023) ∧ (p.kind = 1 ∨ p.auth = 0) := by
 unfold ptrE
 constructor
 · intro h
   split at h
   · cases h
   · split at h
     · cases h
     · split at h
       · cases h
       · omega
 · rintro ⟨h1, h2, h3, h4, h5⟩
   rw [if_neg (by omega), if_neg (by omega), if_neg (by omega)]
def ptrOfL (l : List UInt8) : Ptr := ⟨((l.getD 0 0).toNat : Int), bigL ((l.drop 4).take 6), bigL ((l.drop 10).take 6), bigL ((l.drop 2).take 2)⟩
def ptrInL (l : List UInt8) : Ptr × Int := if ¬ l.length = 16 then (⟨0, 0, 0, 0⟩, 18) else if ¬ ((l.getD 1 0).toNat : Int) = 0 then (⟨0, 0, 0, 0⟩, 5) else if ¬ ptrE (ptrOfL l) = 0 then (⟨0, 0, 0, 0⟩, ptrE (ptrOfL l)) else (ptrOfL l, 0)
def ptrL (p : Ptr) : List UInt8 := [UInt8.ofNat p.kind.toNat, 0] ++ bigB p.auth 2 ++ bigB p.seg 6 ++ bigB p.off 6
theorem ptrL_len (p : Ptr) : (ptrL p).length = 16 := by simp [ptrL, bigB_len]
theorem take_mid {α : Type} {a b c : List α} {n k : Nat} (h1 : a.length = n) (h2 : b.length = k) : ((a ++ b ++ c).drop n).take k = b := by
 subst h1 h2
 rw [List.append_assoc, List.drop_left, List.take_left]
theorem ptrInL_ptrL {p : Ptr} (h : ptrE p = 0) : ptrInL (ptrL p) = (p, 0) := by
 obtain ⟨h1, h2, h3, h4, h5⟩ := ptrE_ok.1 h
 have e0 : ((ptrL p).getD 0 0).toNat = p.kind.toNat := by
  have : (ptrL p).getD 0 0 = UInt8.ofNat p.kind.toNat := rfl
  rw [this, UInt8.toNat_ofNat']
  exact Nat.mod_eq_of_lt (by omega)
 have e1 : ((ptrL p).getD 1 0).toNat = 0 := rfl
 have d2 : ((ptrL p).drop 2).take 2 = bigB p.auth 2 := by
  have := take_mid (a := [UInt8.ofNat p.kind.toNat, 0]) (b := bigB p.auth 2) (c := bigB p.seg 6 ++ bigB p.off 6) (n := 2) (k := 2) rfl (bigB_len ..)
  rw [← this]; simp [ptrL]
 have d4 : ((ptrL p).drop 4).take 6 = bigB p.seg 6 := by
  have := take_mid (a := [UInt8.ofNat p.kind.toNat, 0] ++ bigB p.auth 2) (b := bigB p.seg 6) (c := bigB p.off 6) (n := 4) (k := 6) (by simp [bigB_len]) (bigB_len ..)
  rw [← this]; simp [ptrL]
 have d10 : ((ptrL p).drop 10).take 6 = bigB p.off 6 := by
  have := take_mid (a := [UInt8.ofNat p.kind.toNat, 0] ++ bigB p.auth 2 ++ bigB p.seg 6) (b := bigB p.off 6) (c := []) (n := 10) (k := 6) (by simp [bigB_len]) (bigB_len ..)
  rw [← this]; simp [ptrL]
 have ep : ptrOfL (ptrL p) = p := by
  unfold ptrOfL
  rw [e0, d2, d4, d10, bigL_bigB 2 p.auth (by omega) (by omega), bigL_bigB 6 p.seg (by omega) (by omega), bigL_bigB 6 p.off (by omega) (by omega)]
  obtain ⟨a, b, c, d⟩ := p
  simp only at *
  rw [Int.toNat_of_nonneg h1.1]
 unfold ptrInL
 rw [if_neg (not_not_intro (ptrL_len p)), e1, if_neg (by decide), ep, if_neg (not_not_intro h)]
def toL (b : ByteArray) : List UInt8 := b.data.toList
theorem toL_inj {a b : ByteArray} (h : toL a = toL b) : a = b := ByteArray.ext (Array.toList_inj.1 h)
theorem toL_len (b : ByteArray) : (toL b).length = b.size := rfl
theorem toL_extract (b : ByteArray) (i j : Nat) : toL (b.extract i j) = ((toL b).drop i).take (j - i) := by
 unfold toL
 rw [ByteArray.data_extract, Array.toList_extract, List.extract_eq_take_drop]
theorem toL_append (a b : ByteArray) : toL (a ++ b) = toL a ++ toL b := by simp [toL, ByteArray.data_append]
def ofL (l : List UInt8) : ByteArray := ⟨l.toArray⟩
theorem toL_ofL (l : List UInt8) : toL (ofL l) = l := rfl
theorem ofL_size (l : List UInt8) : (ofL l).size = l.length := by simp [ofL, ByteArray.size]
def patch (b : ByteArray) (at' : Nat) (d : ByteArray) : ByteArray := b.extract 0 at' ++ d ++ b.extract (at' + d.size) b.size
theorem toL_patch (b : ByteArray) (a : Nat) (d : ByteArray) : toL (patch b a d) = (toL b).take a ++ toL d ++ (toL b).drop (a + d.size) := by
 unfold patch
 rw [toL_append, toL_append, toL_extract, toL_extract, List.drop_zero, Nat.sub_zero]
 congr 1
 rw [List.take_of_length_le]
 rw [List.length_drop, toL_len]; omega
theorem patch_size {b : ByteArray} {a : Nat} {d : ByteArray} (h : a + d.size ≤ b.size) : (patch b a d).size = b.size := by
 rw [← toL_len, toL_patch]
 simp only [List.length_append, List.length_take, List.length_drop, toL_len]; omega
def quadB (b : ByteArray) (k : Nat) : ByteArray := b.extract (16 * k) (16 * k + 16)
theorem toL_quad (b : ByteArray) (k : Nat) : toL (quadB b k) = ((toL b).drop (16 * k)).take 16 := by
 rw [quadB, toL_extract]; congr 1; omega
theorem quadB_size {b : ByteArray} {k : Nat} (h : 16 * k + 16 ≤ b.size) : (quadB b k).size = 16 := by
 rw [← toL_len, toL_quad, List.length_take, List.length_drop, toL_len]; omega
theorem quad_before {b : ByteArray} {a : Nat} {d : ByteArray} {j : Nat} (h : a + d.size ≤ b.size) (hj : 16 * j + 16 ≤ a) : quadB (patch b a d) j = quadB b j := by
 apply toL_inj
 rw [toL_quad, toL_quad, toL_patch, List.append_assoc, List.drop_append_of_le_length (by rw [List.length_take, toL_len]; omega), List.take_append_of_le_length (by rw [List.length_drop, List.length_take, toL_len]; omega), List.drop_take, List.take_take]
 congr 1; omega
theorem quad_behind {b : ByteArray} {a : Nat} {d : ByteArray} {j : Nat} (h : a + d.size ≤ b.size) (hj : a + d.size ≤ 16 * j) : quadB (patch b a d) j = quadB b j := by
 apply toL_inj
 rw [toL_quad, toL_quad, toL_patch]
 have hl : ((toL b).take a ++ toL d).length = a + d.size := by rw [List.length_append, List.length_take, toL_len, toL_len]; omega
 obtain ⟨m, hm⟩ : ∃ m, 16 * j = a + d.size + m := ⟨16 * j - (a + d.size), by omega⟩
 rw [hm]
 congr 1
 rw [← hl, List.drop_length_add_append, List.drop_drop, hl]
theorem quad_at {b : ByteArray} {k : Nat} {d : ByteArray} (h : 16 * k + 16 ≤ b.size) (hd : d.size = 16) : quadB (patch b (16 * k) d) k = d := by
 apply toL_inj
 rw [toL_quad, toL_patch]
 exact take_mid (by rw [List.length_take, toL_len]; omega) hd
theorem quad_other {b : ByteArray} {k j : Nat} {d : ByteArray} (h : 16 * k + 16 ≤ b.size) (hd : d.size = 16) (hj : j ≠ k) : quadB (patch b (16 * k) d) j = quadB b j := by
 rcases Nat.lt_or_ge j k with q | q
 · exact quad_before (by omega) (by omega)
 · exact quad_behind (by omega) (by omega)
def Stg.tag (s : Stg) (k : Nat) : Bool := s.tags.getD k false
def ptrIn (b : ByteArray) : Ptr × Int := ptrInL (toL b)
def ptrB (p : Ptr) : ByteArray := ofL (ptrL p)
theorem ptrB_size (p : Ptr) : (ptrB p).size = 16 := by rw [ptrB, ofL_size, ptrL_len]
theorem ptrIn_ptrB {p : Ptr} (h : ptrE p = 0) : ptrIn (ptrB p) = (p, 0) := ptrInL_ptrL h
def Stg.view (s : Stg) (k : Nat) : Option Ptr := if s.tag k = true then some (ptrIn (quadB s.bytes k)).1 else none
structure Stg.Ok (s : Stg) (n : Nat) : Prop where
 size : s.bytes.size = 16 * n
 tags : s.tags.length = n
 ptr : ∀ k, k < n → s.tag k = true → (ptrIn (quadB s.bytes k)).2 = 0
theorem ptrIn_err {b : ByteArray} (h : (ptrIn b).2 = 0) : ptrE (ptrIn b).1 = 0 := by
 unfold ptrIn ptrInL at *
 split at h
 · cases h
 · split at h
   · cases h
   · split at h
     · exact absurd h (by assumption)
     · rename_i q1 q2 q3
       rw [if_neg q1, if_neg q2, if_neg q3]
       simpa using q3
theorem Stg.Ok.view {s : Stg} {n k : Nat} (h : s.Ok n) {p : Ptr} (hv : s.view k = some p) : k < n ∧ s.tag k = true ∧ ptrIn (quadB s.bytes k) = (p, 0) ∧ ptrE p = 0 := by
 unfold Stg.view at hv
 split at hv
 · rename_i q
   have hk : k < n := by
    rcases Nat.lt_or_ge k n with r | r
    · exact r
    · have : s.tag k = false := by rw [Stg.tag, List.getD_eq_getElem?_getD, List.getElem?_eq_none (by rw [h.tags]; exact r)]; rfl
      rw [this] at q; cases q
   have h2 := h.ptr k hk q
   cases hv
   exact ⟨hk, q, Prod.ext rfl h2, ptrIn_err h2⟩
 · cases hv
def setQ (s : Stg) (k : Nat) (q : ByteArray) (t : Bool) : Stg := ⟨patch s.bytes (16 * k) q, s.tags.set k t⟩
theorem setQ_tag {s : Stg} {n k : Nat} {q : ByteArray} {t : Bool} (h : s.Ok n) (hk : k < n) (j : Nat) : (setQ s k q t).tag j = if j = k then t else s.tag j := by
 unfold setQ Stg.tag
 simp only [List.getD_eq_getElem?_getD, List.getElem?_set]
 have := h.tags
 by_cases hj : j = k
 · subst hj; rw [if_pos rfl, if_pos rfl, if_pos (by omega)]; rfl
 · rw [if_neg (fun e => hj e.symm), if_neg hj]
theorem setQ_quad {s : Stg} {n k : Nat} {q : ByteArray} {t : Bool} (h : s.Ok n) (hk : k < n) (hq : q.size = 16) (j : Nat) : quadB (setQ s k q t).bytes j = if j = k then q else quadB s.bytes j := by
 have := h.size
 unfold setQ
 simp only
 by_cases hj : j = k
 · subst hj; rw [if_pos rfl]; exact quad_at (by omega) hq
 · rw [if_neg hj]; exact quad_other (by omega) hq hj
theorem setQ_ok {s : Stg} {n k : Nat} {q : ByteArray} {t : Bool} (h : s.Ok n) (hk : k < n) (hq : q.size = 16) (ht : t = true → (ptrIn q).2 = 0) : (setQ s k q t).Ok n := by
 have h1 := h.size
 refine ⟨?_, ?_, fun j hj hjt => ?_⟩
 · unfold setQ; simp only; rw [patch_size (by omega)]; exact h.size
 · unfold setQ; simp only [List.length_set]; exact h.tags
 · rw [setQ_quad h hk hq]
   rw [setQ_tag h hk] at hjt
   split
   · rename_i e; rw [if_pos e] at hjt; exact ht hjt
   · rename_i e; rw [if_neg e] at hjt; exact h.ptr j hj hjt
theorem setQ_view {s : Stg} {n k : Nat} {q : ByteArray} {t : Bool} (h : s.Ok n) (hk : k < n) (hq : q.size = 16) (j : Nat) : (setQ s k q t).view j = if j = k then (if t = true then some (ptrIn q).1 else none) else s.view j := by
 unfold Stg.view
 rw [setQ_tag h hk, setQ_quad h hk hq]
 by_cases hj : j = k
 · simp only [if_pos hj]
 · simp only [if_neg hj]
def touch (a n j : Nat) : Bool := decide (0 < n) && decide (a / 16 ≤ j) && decide (j ≤ (a + n - 1) / 16)
def clearT (l : List Bool) (a n : Nat) : List Bool := l.mapIdx fun j t => t && !touch a n j
def wrS (s : Stg) (a : Nat) (d : ByteArray) : Stg := ⟨patch s.bytes a d, clearT s.tags a d.size⟩
theorem clearT_len (l : List Bool) (a n : Nat) : (clearT l a n).length = l.length := by simp [clearT]
theorem clearT_get (l : List Bool) (a n j : Nat) : (clearT l a n).getD j false = (l.getD j false && !touch a n j) := by
 unfold clearT
 simp only [List.getD_eq_getElem?_getD, List.getElem?_mapIdx]
 cases l[j]? <;> simp
theorem wrS_tag (s : Stg) (a : Nat) (d : ByteArray) (j : Nat) : (wrS s a d).tag j = (s.tag j && !touch a d.size j) := clearT_get ..
theorem wrS_quad {s : Stg} {a : Nat} {d : ByteArray} {j : Nat} (h : a + d.size ≤ s.bytes.size) (ht : touch a d.size j = false) : quadB (wrS s a d).bytes j = quadB s.bytes j := by
 unfold wrS
 simp only
 unfold touch at ht
 by_cases h0 : 0 < d.size
 · by_cases h1 : a / 16 ≤ j
   · have h2 : ¬ j ≤ (a + d.size - 1) / 16 := by simpa [h0, h1] using ht
     exact quad_behind h (by omega)
   · exact quad_before h (by omega)
 · have e : patch s.bytes a d = s.bytes := by
    apply toL_inj
    rw [toL_patch]
    have e1 : toL d = [] := List.eq_nil_of_length_eq_zero (by rw [toL_len]; omega)
    have e2 : d.size = 0 := by omega
    rw [e1, e2, Nat.add_zero, List.append_nil, List.take_append_drop]
   rw [e]
theorem wrS_ok {s : Stg} {n a : Nat} {d : ByteArray} (hs : s.Ok n) (h : a + d.size ≤ s.bytes.size) : (wrS s a d).Ok n := by
 refine ⟨by unfold wrS; simp only; rw [patch_size h]; exact hs.size, by unfold wrS; simp only; rw [clearT_len]; exact hs.tags, fun j hj ht => ?_⟩
 rw [wrS_tag, Bool.and_eq_true] at ht
 rw [wrS_quad h (by simpa using ht.2)]
 exact hs.ptr j hj ht.1
theorem wrS_view {s : Stg} {a : Nat} {d : ByteArray} (h : a + d.size ≤ s.bytes.size) (j : Nat) : (wrS s a d).view j = if touch a d.size j = true then none else s.view j := by
 unfold Stg.view
 rw [wrS_tag]
 cases ht : touch a d.size j with
 | true => simp
 | false => rw [wrS_quad h ht]; simp
theorem clearT_quad {l : List Bool} {k : Nat} : clearT l (16 * k) 16 = l.set k false := by
 apply List.ext_getElem?
 intro j
 unfold clearT
 rw [List.getElem?_mapIdx, List.getElem?_set]
 have ht : touch (16 * k) 16 j = decide (k = j) := by
  unfold touch
  have e1 : 16 * k / 16 = k := by omega
  have e2 : (16 * k + 16 - 1) / 16 = k := by omega
  rw [e1, e2]
  by_cases h : k = j
  · subst h; simp
  · have : ¬ (k ≤ j ∧ j ≤ k) := fun q => h (Nat.le_antisymm q.1 q.2)
    rw [decide_eq_false h]
    by_cases h1 : k ≤ j
    · have : ¬ j ≤ k := fun q => this ⟨h1, q⟩
      simp [h1, this]
    · simp [h1]
 by_cases h : k = j
 · subst h
   rw [if_pos rfl, ht]
   by_cases hl : k < l.length
   · rw [if_pos hl, List.getElem?_eq_getElem hl]; simp
   · rw [if_neg hl, List.getElem?_eq_none (by omega)]; rfl
 · rw [if_neg h, ht, decide_eq_false h]
   cases l[j]? <;> simp
theorem wrS_quadword {s : Stg} {k : Nat} {q : ByteArray} (hq : q.size = 16) : wrS s (16 * k) q = setQ s k q false := by
 unfold wrS setQ
 rw [hq, clearT_quad]
structure COp where
 kind : Int
 job : Int
 src : Int
 dst : Int
 pointer : Int
 object : Int
 auth : Int
 data : ByteArray
deriving Inhabited
end Go.Proofs.YtbhgehhmjpipiaaGreatDoor.C12
namespace Go.Proofs.YtbhgehhmjpipiaaGreatDoor.C12
open Go Go.Proofs
structure St where
 jobs : List Stg
 spaces : List Stg
deriving Inhabited
def zSt : St := ⟨[], []⟩
def andI (a b : Int) : Int := Go.bits .and .i64 a b
theorem andI_rng {a b : Int} (ha : 0 ≤ a ∧ a ≤ 1023) (hb : 0 ≤ b ∧ b ≤ 1023) : 0 ≤ andI a b ∧ andI a b ≤ 1023 := by
 obtain ⟨x, rfl⟩ := Int.eq_ofNat_of_zero_le ha.1
 obtain ⟨y, rfl⟩ := Int.eq_ofNat_of_zero_le hb.1
 have h := (bits_nat .i64 10 (by decide) (fun n h1 h2 => by rw [IntKind.wrap_i64]; omega) x y (by omega) (by omega)).1
 unfold andI
 rw [h]
 have : x &&& y ≤ x := Nat.and_le_left
 omega
def isQ (n : Int) : Bool := decide (0 ≤ n ∧ n ≤ 59)
def badF (C : CC) (o : COp) : Bool :=
 (decide (2 ≤ o.kind ∧ o.kind ≤ 7) && !isQ o.src) || (!decide (o.kind = 1 ∨ o.kind = 8) && !decide (o.kind = 4) && !isQ o.dst) || (decide (6 ≤ o.kind) && !isQ o.pointer)
   || (decide (o.kind = 1 ∨ o.kind = 8) && !decide (0 ≤ o.dst ∧ o.dst + (o.data.size : Int) ≤ 960))
   || (decide (o.kind = 0) && !decide (0 ≤ o.object ∧ o.object < (C.O : Int))) || (decide (o.kind = 4) && !decide (0 ≤ o.auth ∧ o.auth ≤ 1023))
def St.own (s : St) (o : COp) : Stg := s.jobs.getD o.job.toNat default
def St.sp (s : St) (k : Nat) : Stg := s.spaces.getD k default
def setJ (s : St) (o : COp) (x : Stg) : St := ⟨s.jobs.set o.job.toNat x, s.spaces⟩
def setP (s : St) (k : Nat) (x : Stg) : St := ⟨s.jobs, s.spaces.set k x⟩
def atI (o : COp) : Int := if o.kind = 4 ∨ o.kind = 5 then o.src else o.pointer
def kdI (o : COp) : Int := if o.kind = 8 then 0 else 1
def needI (o : COp) : Int := if o.kind = 8 ∨ o.kind = 4 then 0 else if o.kind = 7 then 32 else 128
def byP (s : St) (o : COp) (p : Ptr) : St :=
 if o.kind = 4 then setJ s o (setQ (s.own o) o.src.toNat (ptrB ⟨p.kind, p.seg, p.off, andI p.auth o.auth⟩) true)
 else if o.kind = 5 then setJ s o (setQ (s.own o) o.dst.toNat (ptrB ⟨0, p.seg, p.off, 0⟩) true)
 else if o.kind = 6 then setP s (p.seg - 1).toNat (setQ (s.sp (p.seg - 1).toNat) o.dst.toNat (quadB (s.own o).bytes o.src.toNat) ((s.own o).tag o.src.toNat))
 else if o.kind = 7 then setJ s o (setQ (s.own o) o.dst.toNat (quadB (s.sp (p.seg - 1).toNat).bytes o.src.toNat) ((s.sp (p.seg - 1).toNat).tag o.src.toNat))
 else setP s (p.seg - 1).toNat (wrS (s.sp (p.seg - 1).toNat) o.dst.toNat o.data)
def byPS (C : CC) (s : St) (o : COp) : St × Int :=
 match (s.own o).view (atI o).toNat with
 | none => (zSt, 22)
 | some p => if ¬ p.kind = kdI o ∨ (¬ o.kind = 4 ∧ C.sp (p.seg - 1) = false) then (zSt, 17) else if C.inc p.auth (needI o) = false then (zSt, 23) else (byP s o p, 0)
def stepS (C : CC) (s : St) (o : COp) : St × Int :=
 if ¬ (0 ≤ o.kind ∧ o.kind ≤ 8) then (zSt, 4) else if ¬ (0 ≤ o.job ∧ o.job < (C.J : Int)) then (zSt, 3) else if badF C o = true then (zSt, 3)
 else if o.kind = 0 then (if C.au o.job.toNat o.object.toNat = 0 then (zSt, 23) else (setJ s o (setQ (s.own o) o.dst.toNat (ptrB ⟨1, o.object + 1, 0, C.au o.job.toNat o.object.toNat⟩) true), 0))
 else if o.kind = 1 then (setJ s o (wrS (s.own o) o.dst.toNat o.data), 0)
 else if o.kind = 2 then (setJ s o (setQ (s.own o) o.dst.toNat (quadB (s.own o).bytes o.src.toNat) ((s.own o).tag o.src.toNat)), 0)
 else if o.kind = 3 then (setJ s o (setQ (s.own o) o.dst.toNat (quadB (s.own o).bytes o.src.toNat) false), 0)
 else byPS C s o
structure PtrOk (C : CC) (p : Ptr) : Prop where
 kind : ¬ p.kind = 2
 off : p.off = 0
 seg : 1 ≤ p.seg ∧ p.seg ≤ (C.O : Int)
 space : p.kind = 0 → C.sp (p.seg - 1) = true
structure StgV (C : CC) (n : Nat) (s : Stg) : Prop where
 ok : s.Ok n
 ptr : ∀ k p, s.view k = some p → PtrOk C p
def quadsC (C : CC) (k : Nat) : Nat := if C.sp (k : Int) = true then 60 else 0
structure StV (C : CC) (s : St) : Prop where
 nj : s.jobs.length = C.J
 ns : s.spaces.length = C.O
 job : ∀ j, j < C.J → StgV C 60 (s.jobs.getD j default)
 sp : ∀ k, k < C.O → StgV C (quadsC C k) (s.spaces.getD k default)
structure CC.Aut (C : CC) : Prop where
 fit : C.Fit
 au : ∀ j k, j < C.J → k < C.O → 0 ≤ C.au j k ∧ C.au j k ≤ 1023
variable {C : CC}
theorem StgV.setQ {n k : Nat} {s : Stg} {q : ByteArray} {t : Bool} (h : StgV C n s) (hk : k < n) (hq : q.size = 16) (ht : t = true → (ptrIn q).2 = 0 ∧ PtrOk C (ptrIn q).1) : StgV C n (C12.setQ s k q t) := by
 refine ⟨setQ_ok h.ok hk hq fun e => (ht e).1, fun j p hv => ?_⟩
 rw [setQ_view h.ok hk hq] at hv
 split at hv
 · split at hv
   · rename_i e; cases hv; exact (ht e).2
   · cases hv
 · exact h.ptr j p hv
theorem StgV.wrS {n a : Nat} {s : Stg} {d : ByteArray} (h : StgV C n s) (ha : a + d.size ≤ s.bytes.size) : StgV C n (C12.wrS s a d) := by
 refine ⟨wrS_ok h.ok ha, fun j p hv => ?_⟩
 rw [wrS_view ha] at hv
 split at hv
 · cases hv
 · exact h.ptr j p hv
theorem StgV.tag {n k : Nat} {s : Stg} (h : StgV C n s) (ht : s.tag k = true) : (ptrIn (quadB s.bytes k)).2 = 0 ∧ PtrOk C (ptrIn (quadB s.bytes k)).1 := by
 have hv : s.view k = some (ptrIn (quadB s.bytes k)).1 := by unfold Stg.view; rw [if_pos ht]
 exact ⟨congrArg Prod.snd (h.ok.view hv).2.2.1, h.ptr k _ hv⟩
theorem StV.setJ {s : St} (h : StV C s) {o : COp} {x : Stg} (hx : StgV C 60 x) : StV C (C12.setJ s o x) := by
 refine ⟨by unfold C12.setJ; simp [h.nj], h.ns, fun j hj => ?_, h.sp⟩
 unfold C12.setJ
 simp only [List.getD_eq_getElem?_getD, List.getElem?_set]
 split
 · split
   · exact hx
   · rename_i e1 e2; exact absurd (by rw [h.nj]; omega) e2
 · have := h.job j hj; rwa [List.getD_eq_getElem?_getD] at this
theorem StV.setP {s : St} (h : StV C s) {k : Nat} {x : Stg} (hx : StgV C (quadsC C k) x) : StV C (C12.setP s k x) := by
 refine ⟨h.nj, by unfold C12.setP; simp [h.ns], h.job, fun j hj => ?_⟩
 unfold C12.setP
 simp only [List.getD_eq_getElem?_getD, List.getElem?_set]
 split
 · rename_i e
   subst e
   split
   · exact hx
   · rename_i e2; exact absurd (by rw [h.ns]; omega) e2
 · have := h.sp j hj; rwa [List.getD_eq_getElem?_getD] at this
structure FOk (C : CC) (o : COp) : Prop where
 kind : 0 ≤ o.kind ∧ o.kind ≤ 8
 job : 0 ≤ o.job ∧ o.job < (C.J : Int)
 src : 2 ≤ o.kind → o.kind ≤ 7 → 0 ≤ o.src ∧ o.src ≤ 59
 dst : ¬ o.kind = 1 → ¬ o.kind = 8 → ¬ o.kind = 4 → 0 ≤ o.dst ∧ o.dst ≤ 59
 ptr : 6 ≤ o.kind → 0 ≤ o.pointer ∧ o.pointer ≤ 59
 data : o.kind = 1 ∨ o.kind = 8 → 0 ≤ o.dst ∧ o.dst + (o.data.size : Int) ≤ 960
 object : o.kind = 0 → 0 ≤ o.object ∧ o.object < (C.O : Int)
 auth : o.kind = 4 → 0 ≤ o.auth ∧ o.auth ≤ 1023
theorem fok_of {o : COp} (h1 : 0 ≤ o.kind ∧ o.kind ≤ 8) (h2 : 0 ≤ o.job ∧ o.job < (C.J : Int)) (h : badF C o = false) : FOk C o := by
 unfold badF isQ at h
 simp only [Bool.or_eq_false_iff, Bool.and_eq_false_iff, decide_eq_false_iff_not, Bool.not_eq_false, Bool.not_eq_eq_eq_not, Bool.not_false, Bool.not_true, decide_eq_true_eq] at h
 obtain ⟨⟨⟨⟨⟨a1, a2⟩, a3⟩, a4⟩, a5⟩, a6⟩ := h
 refine ⟨h1, h2, fun q1 q2 => ?_, fun q1 q2 q3 => ?_, fun q => ?_, fun q => ?_, fun q => ?_, fun q => ?_⟩
 · omega
 · omega
 · omega
 · omega
 · omega
 · omega
theorem atI_rng {o : COp} (h : FOk C o) (hk : 4 ≤ o.kind) : 0 ≤ atI o ∧ atI o ≤ 59 := by
 unfold atI
 have := h.kind
 split
 · exact h.src (by omega) (by omega)
 · exact h.ptr (by omega)
theorem byP_ok (hA : C.Aut) {s : St} (h : StV C s) {o : COp} (hf : FOk C o) (hk : 4 ≤ o.kind) {p : Ptr} (hv : (s.own o).view (atI o).toNat = some p) (hs : o.kind = 4 ∨ C.sp (p.seg - 1) = true) (h1 : p.kind = kdI o) : StV C (byP s o p) := by
 have hj := hf.job
 have hown : StgV C 60 (s.own o) := h.job o.job.toNat (by omega)
 have hp := hown.ptr _ _ hv
 obtain ⟨_, _, _, hpe⟩ := hown.ok.view hv
 obtain ⟨e1, e2, e3, e4, e5⟩ := ptrE_ok.1 hpe
 have hsp : o.kind = 4 ∨ StgV C 60 (s.sp (p.seg - 1).toNat) := by
  rcases hs with q | q
  · exact .inl q
  · right
    have := h.sp (p.seg - 1).toNat (by have := hp.seg; omega)
    have e : ((p.seg - 1).toNat : Int) = p.seg - 1 := by have := hp.seg; omega
    unfold quadsC at this
    rw [e, if_pos q] at this
    exact this
 have hq : ∀ o', C.sp o' = true → quadsC C o'.toNat = 60 := fun o' q => by
  have := hA.fit.sp o' q
  unfold quadsC
  rw [show ((o'.toNat : Nat) : Int) = o' by omega, if_pos q]
 have := hf.kind
 unfold byP
 split
 · rename_i k4
   have h0 := andI_rng e4 (hf.auth k4)
   have hkd : p.kind = 1 := by rw [h1, kdI, if_neg (by omega)]
   have hpp : ptrE ⟨p.kind, p.seg, p.off, andI p.auth o.auth⟩ = 0 := ptrE_ok.2 ⟨e1, e2, e3, h0, .inl hkd⟩
   have hsrc := hf.src (by omega) (by omega)
   refine h.setJ (hown.setQ (by omega) (ptrB_size _) fun _ => ?_)
   rw [ptrIn_ptrB hpp]
   exact ⟨rfl, hp.kind, hp.off, hp.seg, hp.space⟩
 rename_i k4
 have hs' : C.sp (p.seg - 1) = true := hs.resolve_left k4
 have hsp' := hsp.resolve_left k4
 split
 · rename_i k5
   have hdst := hf.dst (by omega) (by omega) (by omega)
   have hpp : ptrE ⟨0, p.seg, p.off, 0⟩ = 0 := ptrE_ok.2 ⟨by simp, e2, e3, by simp, by simp⟩
   refine h.setJ (hown.setQ (by omega) (ptrB_size _) fun _ => ?_)
   rw [ptrIn_ptrB hpp]
   exact ⟨rfl, by simp, hp.off, hp.seg, fun _ => hs'⟩
 rename_i k5
 split
 · rename_i k6
   have hdst := hf.dst (by omega) (by omega) (by omega)
   have hsrc := hf.src (by omega) (by omega)
   refine h.setP ?_
   rw [hq _ hs']
   exact hsp'.setQ (by omega) (quadB_size (by rw [hown.ok.size]; omega)) fun e => hown.tag e
 rename_i k6
 split
 · rename_i k7
   have hdst := hf.dst (by omega) (by omega) (by omega)
   have hsrc := hf.src (by omega) (by omega)
   refine h.setJ ?_
   exact hown.setQ (by omega) (quadB_size (by rw [hsp'.ok.size]; omega)) fun e => hsp'.tag e
 · rename_i k7
   have hd := hf.data (by omega)
   refine h.setP ?_
   rw [hq _ hs']
   exact hsp'.wrS (by rw [hsp'.ok.size]; omega)
theorem step_ok (hA : C.Aut) {s : St} (h : StV C s) {o : COp} (he : (stepS C s o).2 = 0) : StV C (stepS C s o).1 := by
 unfold stepS at he ⊢
 split at he
 · cases he
 rename_i q1
 rw [if_neg q1]
 split at he
 · cases he
 rename_i q2
 rw [if_neg q2]
 split at he
 · cases he
 rename_i q3
 rw [if_neg q3]
 have hf : FOk C o := fok_of (Classical.not_not.1 q1) (Classical.not_not.1 q2) (by simpa using q3)
 have hj := hf.job
 have hown : StgV C 60 (s.own o) := h.job o.job.toNat (by omega)
 split at he
 · rename_i k0
   rw [if_pos k0]
   split at he
   · cases he
   rename_i q4
   rw [if_neg q4]
   have ho := hf.object k0
   have hdst := hf.dst (by omega) (by omega) (by omega)
   have ha := hA.au o.job.toNat o.object.toNat (by omega) (by omega)
   have hO := hA.fit.O
   have hpp : ptrE ⟨1, o.object + 1, 0, C.au o.job.toNat o.object.toNat⟩ = 0 := ptrE_ok.2 ⟨by simp, by simp only; omega, by simp, ha, .inl rfl⟩
   refine h.setJ (hown.setQ (by omega) (ptrB_size _) fun _ => ?_)
   rw [ptrIn_ptrB hpp]
   exact ⟨rfl, by simp, rfl, by simp only; omega, fun e => by simp at e⟩
 rename_i k0
 rw [if_neg k0]
 split at he
 · rename_i k1
   rw [if_pos k1]
   have hd := hf.data (.inl k1)
   exact h.setJ (hown.wrS (by rw [hown.ok.size]; omega))
 rename_i k1
 rw [if_neg k1]
 split at he
 · rename_i k2
   rw [if_pos k2]
   have hdst := hf.dst (by omega) (by omega) (by omega)
   have hsrc := hf.src (by omega) (by omega)
   exact h.setJ (hown.setQ (by omega) (quadB_size (by rw [hown.ok.size]; omega)) fun e => hown.tag e)
 rename_i k2
 rw [if_neg k2]
 split at he
 · rename_i k3
   rw [if_pos k3]
   have hdst := hf.dst (by omega) (by omega) (by omega)
   have hsrc := hf.src (by omega) (by omega)
   exact h.setJ (hown.setQ (by omega) (quadB_size (by rw [hown.ok.size]; omega)) fun e => by cases e)
 rename_i k3
 rw [if_neg k3]
 have hk : 4 ≤ o.kind := by have := hf.kind; omega
 unfold byPS at he ⊢
 cases hv : (s.own o).view (atI o).toNat with
 | none => rw [hv] at he; cases he
 | some p =>
   rw [hv] at he
   simp only at he ⊢
   split at he
   · cases he
   rename_i q4
   rw [if_neg q4]
   split at he
   · cases he
   rename_i q5
   rw [if_neg q5]
   refine byP_ok hA h hf hk hv ?_ ?_
   · by_cases r : o.kind = 4
     · exact .inl r
     · right
       cases hs : C.sp (p.seg - 1) with
       | true => rfl
       | false => exact absurd (.inr ⟨r, hs⟩) q4
   · exact Classical.byContradiction fun r => q4 (.inl r)
def zStg (n : Nat) : Stg := ⟨ofL (List.replicate (16 * n) 0), List.replicate n false⟩
theorem zStg_ok (n : Nat) : (zStg n).Ok n := by
 refine ⟨by simp [zStg, ofL_size], by simp [zStg], fun k hk ht => ?_⟩
 unfold Stg.tag zStg at ht
 simp only [List.getD_eq_getElem?_getD, List.getElem?_replicate] at ht
 split at ht <;> cases ht
theorem zStg_view (n k : Nat) : (zStg n).view k = none := by
 unfold Stg.view Stg.tag zStg
 simp only [List.getD_eq_getElem?_getD, List.getElem?_replicate]
 split <;> simp
def startS (C : CC) : St := ⟨List.replicate C.J (zStg 60), (List.range C.O).map fun k => zStg (quadsC C k)⟩
theorem zStg_v (C : CC) (n : Nat) : StgV C n (zStg n) := ⟨zStg_ok n, fun k p hv => by rw [zStg_view] at hv; cases hv⟩
theorem start_ok (C : CC) : StV C (startS C) := by
 refine ⟨by simp [startS], by simp [startS], fun j hj => ?_, fun k hk => ?_⟩
 · have : (startS C).jobs.getD j default = zStg 60 := by simp [startS, List.getD_eq_getElem?_getD, List.getElem?_replicate, hj]
   rw [this]; exact zStg_v C 60
 · have : (startS C).spaces.getD k default = zStg (quadsC C k) := by simp [startS, List.getD_eq_getElem?_getD, hk]
   rw [this]; exact zStg_v C _
def nextS (C : CC) (s : St) (o : COp) : St := if (stepS C s o).2 = 0 then (stepS C s o).1 else s
def runGo (C : CC) : St → List COp → St
 | s, [] => s
 | s, o :: l => runGo C (nextS C s o) l
def errsGo (C : CC) : St → List COp → List Int
 | s, [] => []
 | s, o :: l => (stepS C s o).2 :: errsGo C (nextS C s o) l
theorem next_ok (hA : C.Aut) {s : St} (h : StV C s) (o : COp) : StV C (nextS C s o) := by
 unfold nextS; split
 · rename_i q; exact step_ok hA h q
 · exact h
theorem runGo_ok (hA : C.Aut) : ∀ {l : List COp} {s : St}, StV C s → StV C (runGo C s l)
 | [], s, h => h
 | o :: l, s, h => runGo_ok (l := l) hA (next_ok hA h o)
theorem errsGo_len : ∀ (l : List COp) (s : St), (errsGo C s l).length = l.length
 | [], s => rfl
 | o :: l, s => by simp [errsGo, errsGo_len l]
theorem runGo_snoc : ∀ (l : List COp) (s : St) (o : COp), runGo C s (l ++ [o]) = nextS C (runGo C s l) o
 | [], s, o => rfl
 | a :: l, s, o => runGo_snoc l (nextS C s a) o
theorem errsGo_snoc : ∀ (l : List COp) (s : St) (o : COp), errsGo C s (l ++ [o]) = errsGo C s l ++ [(stepS C (runGo C s l) o).2]
 | [], s, o => rfl
 | a :: l, s, o => by simp only [List.cons_append, errsGo, runGo, errsGo_snoc l]
end Go.Proofs.YtbhgehhmjpipiaaGreatDoor.C12
namespace Go.Proofs.YtbhgehhmjpipiaaGreatDoor.C12
open Go Go.Proofs
variable {C : CC}
theorem setJ_job {s : St} {o : COp} {x : Stg} (h : o.job.toNat < s.jobs.length) (j : Nat) : (setJ s o x).jobs.getD j default = if j = o.job.toNat then x else s.jobs.getD j default := by
 unfold setJ
 simp only [List.getD_eq_getElem?_getD, List.getElem?_set]
 by_cases e : j = o.job.toNat
 · subst e; rw [if_pos rfl, if_pos rfl, if_pos h]; rfl
 · rw [if_neg (fun q => e q.symm), if_neg e]
theorem setP_sp {s : St} {k : Nat} {x : Stg} (h : k < s.spaces.length) (j : Nat) : (setP s k x).spaces.getD j default = if j = k then x else s.spaces.getD j default := by
 unfold setP
 simp only [List.getD_eq_getElem?_getD, List.getElem?_set]
 by_cases e : j = k
 · subst e; rw [if_pos rfl, if_pos rfl, if_pos h]; rfl
 · rw [if_neg (fun q => e q.symm), if_neg e]
def St.jv (s : St) (j k : Nat) : Option Ptr := (s.jobs.getD j default).view k
def St.sv (s : St) (o k : Nat) : Option Ptr := (s.spaces.getD o default).view k
def opR (d : Der) (i : Nat) : COp := ⟨0, d.cap.job, 0, (i : Int), 0, d.cap.object, 0, ⟨#[]⟩⟩
def opA (d : Der) (i : Nat) : COp := ⟨5, d.cap.job, d.source, (i : Int), 0, 0, 0, ⟨#[]⟩⟩
def opS (d y : Der) (i : Nat) : COp := ⟨6, y.cap.job, d.source, (i : Int), d.writer, 0, 0, ⟨#[]⟩⟩
def opL (d : Der) (i : Nat) : COp := ⟨7, d.cap.job, (i : Int), (i : Int), d.reader, 0, 0, ⟨#[]⟩⟩
def wOps (l : List Der) (i : Nat) (d : Der) : List COp := if d.kind = 0 then [opR d i] else if d.kind = 1 then [opA d i] else [opS d (l.getD d.source.toNat default) i, opL d i]
def opsN (l : List Der) : Nat → List COp
 | 0 => []
 | n + 1 => opsN l n ++ wOps l n (l.getD n default)
theorem wOps_len (l : List Der) (i : Nat) (d : Der) : (wOps l i d).length ≤ 2 := by
 unfold wOps; split
 · simp
 · split <;> simp
theorem opsN_len (l : List Der) : ∀ n, (opsN l n).length ≤ 2 * n
 | 0 => Nat.le_refl _
 | n + 1 => by have := opsN_len l n; have := wOps_len l n (l.getD n default); simp only [opsN, List.length_append]; omega
theorem wOps_data {l : List Der} {i : Nat} {d : Der} : ∀ o ∈ wOps l i d, o.data.size = 0 := by
 intro o ho
 unfold wOps at ho
 split at ho
 · simp only [List.mem_cons, List.not_mem_nil, or_false] at ho; subst ho; rfl
 · split at ho
   · simp only [List.mem_cons, List.not_mem_nil, or_false] at ho; subst ho; rfl
   · simp only [List.mem_cons, List.not_mem_nil, or_false] at ho; rcases ho with rfl | rfl <;> rfl
theorem opsN_data {l : List Der} : ∀ n, ∀ o ∈ opsN l n, o.data.size = 0
 | 0, o, h => by cases h
 | n + 1, o, h => by
   rcases List.mem_append.1 h with q | q
   · exact opsN_data n o q
   · exact wOps_data o q
def capOf (j : Nat) (p : Ptr) : Cap := ⟨(j : Int), p.seg - 1, p.kind, p.auth⟩
def Holds (s : St) (n : Nat) (x : Cap) : Prop := ∃ j k p, j < n ∧ s.jv j k = some p ∧ x = capOf j p
end Go.Proofs.YtbhgehhmjpipiaaGreatDoor.C12
