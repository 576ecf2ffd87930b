/- Chapter 10: the whole without a private authority of an object. -/
import Derived.Test.YtdmcmfdmnlckdaaF22
import Derived.Test.YtdmcmfdmnlckdaaF28
import Derived.Test.YtdmcmfdmnlckdaaP7
import Derived.Test.YtdmcmfdmnlckdaaF37
namespace Go.Proofs.Ytdmcmfdmnlckdaa.C10
open Go Go.Proofs Go.Proofs.Ytdmcmfdmnlckdaa.Ab
set_option linter.unusedSimpArgs false
set_option linter.unusedSectionVars false
attribute [local congr] ite_ctx

theorem Without_good (s : Sec) (k i : Nat) (hs : Fit s) (hk : k < s.objects.length) (hi : i < (nth s.objects k).grants.length) :
    Ans Try.prog 41 [.agg (encSec s), .int .i64 (k : Int), .int .i64 (i : Int)] (.agg (encSec (cutG s k i))) := by
  have hq : (List.map encSecured s.objects)[k]? = some (encSecured (nth s.objects k)) := at_map hk
  have hg := hs.ogrants _ (nth_mem hk)
  have hO := hs.objects
  have q1 : (0 : Int) ≤ (k : Int) := by omega
  have q2 : (k : Int) < (s.objects.length : Int) := by omega
  have q3 : (0 : Int) ≤ (i : Int) := by omega
  have q4 : (i : Int) ≤ ((nth s.objects k).grants.length : Int) := by omega
  have ht : (List.take i (nth s.objects k).grants).length = i := by rw [List.length_take]; omega
  have h24 : i * 24 ≤ 140737488355328 := by omega
  have hmx : i ≤ maxLen := by unfold maxLen; omega
  have q5 : ((i + 1 : Nat) : Int) ≤ ((nth s.objects k).grants.length : Int) := by omega
  have q6 : (0 : Int) ≤ ((i + 1 : Nat) : Int) := by omega
  have hdr : List.drop (i + 1) (List.take (nth s.objects k).grants.length (nth s.objects k).grants) = List.drop (i + 1) (nth s.objects k).grants := by rw [List.take_of_length_le (Nat.le_refl _)]
  have hl2 : (List.drop (i + 1) (nth s.objects k).grants).length = (nth s.objects k).grants.length - (i + 1) := List.length_drop
  have h25 : (i + ((nth s.objects k).grants.length - (i + 1))) * 24 ≤ 140737488355328 := by omega
  have hm2 : i + ((nth s.objects k).grants.length - (i + 1)) ≤ maxLen := by unfold maxLen; omega
  have hset : ∀ r, ((List.map encSecured s.objects).set k r)[k]? = some r := fun r => by rw [List.getElem?_set_self (by simpa using hk)]
  have hE : (List.map encSecured s.objects).set k [.str (nth s.objects k).name.lib, .str (nth s.objects k).name.name, .int .i64 (nth s.objects k).name.type, .str (nth s.objects k).owner, .sl (List.map encGrant (List.take i (nth s.objects k).grants ++ List.drop (i + 1) (nth s.objects k).grants)), .str (nth s.objects k).list, .int .i64 (nth s.objects k).pub, .bool (nth s.objects k).byList] = List.map encSecured (cutG s k i).objects := by
    rw [cutG, List.map_set]; rfl
  have hP := rowsP_secured (cutG s k i).objects
  refine good_run [(3000004, [], [100000000004001002])] mixed Try.func41 rfl Try.ntmps41 (rs := [.cell 6 26]) rfl (by decide +kernel) (by kernel_rfl) rfl ?_
  rw [startE_eq 32 _ _ _ rfl rfl]
  set_option maxRecDepth 100000 in simp (maxSteps := 10000000) only [go_sem, Nat.reduceAdd, Nat.reduceSub, Nat.reduceMul, Nat.reduceLT, Nat.reduceLeDiff, Nat.reduceEqDiff, Nat.reduceMod, Nat.reduceDiv, Int.reduceNeg, Int.reduceLE, Int.reduceLT, Int.reduceToNat, Int.reduceEq, Int.reduceNe, ↓reduceIte]
  refine callM_of [] [0, 1, 2] (OwnM s hs) ⟨rfl, rfl, rfl, by simp, by simp, by simp, by simp, rfl, rfl, rfl, onodup_of (l := [31, 53, 75]) rfl (by decide)⟩ ?_
  set_option maxRecDepth 100000 in simp (maxSteps := 10000000) only [go_sem, Nat.reduceAdd, Nat.reduceSub, Nat.reduceMul, Nat.reduceLT, Nat.reduceLeDiff, Nat.reduceEqDiff, Nat.reduceMod, Nat.reduceDiv, Int.reduceNeg, Int.reduceLE, Int.reduceLT, Int.reduceToNat, Int.reduceEq, Int.reduceNe, ↓reduceIte]
  set_option maxRecDepth 100000 in simp (maxSteps := 10000000) only [go_sem, Nat.reduceAdd, Nat.reduceSub, Nat.reduceMul, Nat.reduceLT, Nat.reduceLeDiff, Nat.reduceEqDiff, Nat.reduceMod, Nat.reduceDiv, Int.reduceNeg, Int.reduceLE, Int.reduceLT, Int.reduceToNat, Int.reduceEq, Int.reduceNe, ↓reduceIte,  hq, hk, q1, q2, q3, q4, Option.map_some, Int.toNat_natCast, List.length_map, wrap_succ (show i < 9223372036854775807 by omega), ht, h24, hmx, q5, q6, Int.le_refl, Nat.le_refl, hdr, hl2, h25, hm2, hset, List.length_set, List.set_set, hE, hP]
  refine ⟨by decide +kernel, ?_⟩
  simp [cutG]
end Go.Proofs.Ytdmcmfdmnlckdaa.C10
/- Chapter 10: the plain law of the least authority: it serves, and none of its parts can be spared. -/
namespace Go.Proofs.Ytdmcmfdmnlckdaa.C10
open Go Go.Proofs Go.Proofs.Ytdmcmfdmnlckdaa.Ab
set_option linter.unusedSimpArgs false
set_option linter.unusedSectionVars false
set_option linter.unusedVariables false

/-! ### Authorities as sets -/
def tb (x : Int) (j : Nat) : Bool := x.toNat.testBit j
def sub (x y : Int) : Prop := ∀ j, tb x j = true → tb y j = true
theorem sub_refl (x : Int) : sub x x := fun _ h => h
theorem sub_zero (x : Int) : sub 0 x := fun j h => by simp [tb] at h
theorem rng_nat {x : Int} (h : rng x) : ∃ a : Nat, x = (a : Int) ∧ a < 1024 := by
  obtain ⟨a, rfl⟩ := Int.eq_ofNat_of_zero_le h.1
  exact ⟨a, rfl, by have := h.2; omega⟩
theorem and_nat {a b : Nat} (ha : a < 1024) (hb : b < 1024) : Go.bits .and .i64 (a : Int) (b : Int) = ((a &&& b : Nat) : Int) :=
  (bits_nat .i64 10 (by decide) (fun n h1 h2 => by rw [IntKind.wrap_i64]; omega) a b ha hb).1
theorem or_nat {a b : Nat} (ha : a < 1024) (hb : b < 1024) : Go.bits .or .i64 (a : Int) (b : Int) = ((a ||| b : Nat) : Int) :=
  (bits_nat .i64 10 (by decide) (fun n h1 h2 => by rw [IntKind.wrap_i64]; omega) a b ha hb).2
theorem tb_or {x y : Int} (hx : rng x) (hy : rng y) (j : Nat) : tb (Go.bits .or .i64 x y) j = (tb x j || tb y j) := by
  obtain ⟨a, rfl, ha⟩ := rng_nat hx
  obtain ⟨b, rfl, hb⟩ := rng_nat hy
  rw [or_nat ha hb]; simp [tb]
theorem incB_iff {x n : Int} (hx : rng x) (hn : rng n) : incB x n = true ↔ sub n x := by
  obtain ⟨a, rfl, ha⟩ := rng_nat hx
  obtain ⟨b, rfl, hb⟩ := rng_nat hn
  rw [incB, decide_eq_true_eq, and_nat ha hb]
  constructor
  · intro h j hj
    have h' : a &&& b = b := by exact_mod_cast h
    have : (a &&& b).testBit j = true := by rw [h']; simpa [tb] using hj
    rw [Nat.testBit_and, Bool.and_eq_true] at this
    simpa [tb] using this.1
  · intro h
    congr 1
    apply Nat.eq_of_testBit_eq
    intro j
    rw [Nat.testBit_and]
    have := h j
    simp only [tb, Int.toNat_natCast] at this
    cases hj : b.testBit j
    · simp
    · simp [this hj]
theorem zero_tb {x : Int} (hx : rng x) (h : ∀ j, tb x j = false) : x = 0 := by
  obtain ⟨a, rfl, ha⟩ := rng_nat hx
  have : a = 0 := Nat.eq_of_testBit_eq fun j => by have := h j; simpa [tb] using this
  rw [this]; rfl
theorem andNot_nat : ∀ x : Nat, x < 1024 → ∀ k, k < 10 → Go.bits .andNot .i64 (x : Int) (bitI k) = ((x ^^^ (x &&& 2 ^ k) : Nat) : Int) := by decide +kernel
theorem tb_andNot {x : Int} (hx : rng x) {k : Nat} (hk : k < 10) (j : Nat) : tb (Go.bits .andNot .i64 x (bitI k)) j = (tb x j && !decide (k = j)) := by
  obtain ⟨a, rfl, ha⟩ := rng_nat hx
  rw [andNot_nat a ha k hk]
  simp only [tb, Int.toNat_natCast, Nat.testBit_xor, Nat.testBit_and, Nat.testBit_two_pow]
  cases a.testBit j <;> cases decide (k = j) <;> rfl
theorem and_bit {x : Int} (hx : rng x) {k : Nat} (hk : k < 10) (h : ¬ Go.bits .and .i64 x (bitI k) = 0) : tb x k = true := by
  obtain ⟨a, rfl, ha⟩ := rng_nat hx
  have hb : 2 ^ k < 1024 := Nat.pow_lt_pow_right (by decide) (show k < 10 from hk)
  rw [bitI, and_nat ha hb] at h
  cases hj : a.testBit k with
  | true => simpa [tb] using hj
  | false =>
    exfalso; apply h
    have : a &&& 2 ^ k = 0 := Nat.eq_of_testBit_eq fun j => by
      rw [Nat.testBit_and, Nat.testBit_two_pow, Nat.zero_testBit]
      by_cases q : k = j
      · subst q; rw [hj]; rfl
      · simp [q]
    rw [this]; rfl

/-! ### Private authorities of one user -/
theorem find_set {α : Type} {p : α → Bool} {y : α} (hy : p y = true) : ∀ (l : List α) (i : Nat) (k : Nat), findIx p l i = ((i + k : Nat) : Int) → (l.set k y).find? p = some y
  | [], i, k, h => by rw [findIx] at h; omega
  | a :: l, i, k, h => by
    rw [findIx] at h
    by_cases q : p a = true
    · rw [if_pos q] at h
      have : k = 0 := by omega
      subst this
      rw [List.set_cons_zero, List.find?_cons, hy]
    · rw [if_neg q] at h
      have hg := findIx_ge p l (i + 1)
      obtain ⟨k', rfl⟩ : ∃ k', k = k' + 1 := ⟨k - 1, by omega⟩
      rw [List.set_cons_succ, List.find?_cons, Bool.eq_false_iff.2 q]
      exact find_set hy l (i + 1) k' (by rw [h]; congr 1; omega)
theorem find_set_ne {α : Type} [Inhabited α] {p : α → Bool} {y : α} (hy : p y = false) {l : List α} {k : Nat} (hk : k < l.length) (ho : p (nth l k) = false) : (l.set k y).find? p = l.find? p := by
  have e : l = l.take k ++ nth l k :: l.drop (k + 1) := by
    rw [nth_eq hk, ← List.drop_eq_getElem_cons hk, List.take_append_drop]
  have e2 : l.set k y = l.take k ++ y :: l.drop (k + 1) := by
    rw [List.set_eq_take_append_cons_drop, if_pos hk]
  rw [e2]
  conv => rhs; rw [e]
  rw [List.find?_append, List.find?_append, List.find?_cons, List.find?_cons, hy, ho]
theorem priv_set {l : List Grant} {u : ByteArray} {x : Int} (h : 0 ≤ grantIx l u) : privOf (l.set (grantIx l u).toNat ⟨(nth l (grantIx l u).toNat).user, x⟩) u = some x := by
  have hu := (grant_hit h).1
  rw [privOf, find_set (p := fun p : Grant => decide (p.user = u)) (by rw [hu]; exact decide_eq_true rfl) l 0 (grantIx l u).toNat (by rw [Nat.zero_add, Int.toNat_of_nonneg h]; rfl)]
  rfl
theorem priv_set_ne {l : List Grant} {u w : ByteArray} {x : Int} (h : 0 ≤ grantIx l u) (hw : ¬ w = u) : privOf (l.set (grantIx l u).toNat ⟨(nth l (grantIx l u).toNat).user, x⟩) w = privOf l w := by
  have hu := grant_hit h
  have hn : decide (u = w) = false := decide_eq_false fun e => hw e.symm
  rw [privOf, privOf, find_set_ne (p := fun p : Grant => decide (p.user = w)) (by rw [hu.1]; exact hn) hu.2 (by rw [hu.1]; exact hn)]
theorem priv_ins {l : List Grant} {u : ByteArray} {p : Nat} {a : Int} (h : privOf l u = none) : privOf (insG l p ⟨u, a⟩) u = some a := by
  have hn : l.find? (fun p : Grant => decide (p.user = u)) = none := by
    rw [privOf] at h; simpa using h
  have ht : (l.take p).find? (fun p : Grant => decide (p.user = u)) = none := by
    rw [List.find?_eq_none] at hn ⊢
    exact fun x hx => hn x (List.mem_of_mem_take hx)
  rw [privOf, insG, List.find?_append, ht, List.find?_cons]
  simp
theorem priv_ins_ne {l : List Grant} {u w : ByteArray} {p : Nat} {a : Int} (hw : ¬ w = u) : privOf (insG l p ⟨u, a⟩) w = privOf l w := by
  have hn : decide (u = w) = false := decide_eq_false fun e => hw e.symm
  rw [privOf, privOf, insG, List.find?_append, List.find?_cons, hn, ← List.find?_append, List.take_append_drop]
/-- What a user's entry says after more is granted. -/
def entA (l : List Grant) (u : ByteArray) (a : Int) : Int := match privOf l u with
  | some x => Go.bits .or .i64 x a
  | none => a
theorem priv_some_of {l : List Grant} {u : ByteArray} (h : 0 ≤ grantIx l u) : privOf l u = some (authOf l u) := by
  cases hp : privOf l u with
  | none => exact absurd h (priv_none hp)
  | some x => rw [(priv_some hp).2]
theorem priv_none_of {l : List Grant} {u : ByteArray} (h : ¬ 0 ≤ grantIx l u) : privOf l u = none := by
  cases hp : privOf l u with
  | none => rfl
  | some x => exact absurd (priv_some hp).1 h
theorem priv_add (l : List Grant) (u : ByteArray) (a : Int) : privOf (addG l u a) u = some (entA l u a) := by
  rw [addG, entA]
  split
  · rename_i h; rw [priv_set h, priv_some_of h]; rfl
  · rename_i h; rw [priv_ins (priv_none_of h), priv_none_of h]
theorem priv_add_ne {l : List Grant} {u w : ByteArray} {a : Int} (hw : ¬ w = u) : privOf (addG l u a) w = privOf l w := by
  rw [addG]
  split
  · rename_i h; exact priv_set_ne h hw
  · exact priv_ins_ne hw

/-! ### What is right stays right -/
theorem grantsE_set {s : Sec} {l : List Grant} {i : Nat} {x : Int} (hi : i < l.length) (hx : inB x 0 1023 = true) (z : grantsE s l = 0) : grantsE s (l.set i ⟨(nth l i).user, x⟩) = 0 := by
  rw [grantsE] at z
  split at z
  · cases z
  rename_i h8
  have hz : ∀ j, j < l.length → grantE s l j = 0 := fun j hj => scan_zero _ _ z j (Nat.zero_le _) (by omega)
  have hu : ∀ j, (nth (l.set i ⟨(nth l i).user, x⟩) j).user = (nth l j).user := fun j => by
    rw [nth_set hi]; split
    · rename_i e; rw [e]
    · rfl
  rw [grantsE, List.length_set, if_neg h8]
  refine scan_all _ _ fun j _ hj => grantE_ok.2 ?_
  have h1 := grantE_ok.1 (hz j (by omega))
  rw [hu, hu]
  refine ⟨h1.1, h1.2.1, ?_⟩
  rw [nth_set hi]; split
  · exact hx
  · exact h1.2.2
theorem nth_ins {l : List Grant} {p : Nat} {x : Grant} (hp : p ≤ l.length) (j : Nat) : nth (insG l p x) j = if j < p then nth l j else if j = p then x else nth l (j - 1) := by
  have ht : (l.take p).length = p := by rw [List.length_take]; omega
  rw [nth, nth, nth, List.getD_eq_getElem?_getD, List.getD_eq_getElem?_getD, List.getD_eq_getElem?_getD, insG]
  split
  · rename_i h; rw [List.getElem?_append_left (by omega), List.getElem?_take_of_lt h]
  · rename_i h
    rw [List.getElem?_append_right (by omega), ht]
    split
    · rename_i e; rw [e, Nat.sub_self]; rfl
    · rename_i e
      obtain ⟨m, hm⟩ : ∃ m, j - p = m + 1 := ⟨j - p - 1, by omega⟩
      rw [hm, List.getElem?_cons_succ, List.getElem?_drop, show p + m = j - 1 by omega]
theorem grantsE_ins {s : Sec} {l : List Grant} {u : ByteArray} {a : Int} (hn : ¬ 0 ≤ grantIx l u) (h8 : l.length < 8) (hu : 0 ≤ profIx s u) (ha : inB a 0 1023 = true) (z : grantsE s l = 0) : grantsE s (insG l (posG l u) ⟨u, a⟩) = 0 := by
  have hso := (sortedG_of z).1
  have hp := posG_le l u
  rw [grantsE] at z
  split at z
  · cases z
  have hz : ∀ j, j < l.length → grantE s l j = 0 := fun j hj => scan_zero _ _ z j (Nat.zero_le _) (by omega)
  rw [grantsE, insG_len hp, if_neg (by omega)]
  refine scan_all _ _ fun j _ hj => grantE_ok.2 ?_
  rw [nth_ins hp, nth_ins hp]
  by_cases h1 : j < posG l u
  · have := grantE_ok.1 (hz j (by omega))
    rw [if_pos h1, if_pos (by omega)]
    exact this
  by_cases h2 : j = posG l u
  · rw [if_neg h1, if_pos h2]
    refine ⟨by rw [profIx] at hu; exact Int.not_lt.2 hu, fun h0 => ?_, ha⟩
    rw [if_pos (by omega)]
    have hpp := (pos_iff (u := u) hso (h := j - 1) (by omega)).1 (by omega)
    exact hpp
  · have h3 := grantE_ok.1 (hz (j - 1) (by omega))
    rw [if_neg h1, if_neg h2]
    refine ⟨h3.1, fun h0 => ?_, h3.2.2⟩
    rw [if_neg (by omega)]
    by_cases h4 : j - 1 = posG l u
    · rw [if_pos h4]
      have := lt_new hso hn (i := j - 1) (by omega)
      rw [this]; exact decide_eq_true (by omega)
    · rw [if_neg h4]
      exact h3.2.1 (by omega)
theorem like_obj {s : Sec} {k : Nat} {o : Secured} (hk : k < s.objects.length) {g : List Grant} (ho : o = { nth s.objects k with grants := g }) (hg : grantsE s (nth s.objects k).grants = 0 → grantsE s g = 0) (hl : g.length ≤ (nth s.objects k).grants.length + 1) :
    Like s { s with objects := s.objects.set k o } := by
  have O : ∀ j, nth (s.objects.set k o) j = if k = j then o else nth s.objects j := fun j => nth_set hk
  subst ho
  refine ⟨rfl, rfl, List.length_set, fun j => ?_, fun j => ?_, fun j => ?_, fun j => ?_, fun j => ?_, fun j z => ?_, fun j hj => ?_⟩ <;> show _ <;> simp only [O]
  all_goals split
  all_goals first
    | (rename_i e; subst e; rfl)
    | (rename_i e; subst e; exact hg z)
    | (rename_i e; subst e; exact hl)
    | rfl
    | exact z
    | omega
theorem Like.trans {s t v : Sec} (h1 : Like s t) (h2 : Like t v) (hl : ∀ j, (nth v.objects j).grants.length ≤ (nth t.objects j).grants.length) : Like s v :=
  ⟨h2.ps.trans h1.ps, h2.ls.trans h1.ls, h2.ol.trans h1.ol, fun j => (h2.on j).trans (h1.on j), fun j => (h2.oo j).trans (h1.oo j), fun j => (h2.oi j).trans (h1.oi j), fun j => (h2.ob j).trans (h1.ob j), fun j => (h2.op j).trans (h1.op j),
    fun j z => by have := h2.og j (by rw [h1.grantsE]; exact h1.og j z); rwa [h1.grantsE] at this, fun j hj => Nat.le_trans (hl j) (h1.om j hj)⟩
theorem like_add {s : Sec} {k : Nat} {u : ByteArray} {a : Int} (hk : k < s.objects.length) (hu : 0 ≤ profIx s u) (ha : inB a 0 1023 = true) (hf : 0 ≤ grantIx (nth s.objects k).grants u ∨ (nth s.objects k).grants.length < 8) : Like s (addS s k u a) := by
  refine like_obj hk rfl (fun z => ?_) (addG_len _ _ _)
  rw [addG]
  split
  · rename_i h
    have hm := grant_hit h
    refine grantsE_set hm.2 (rng_inB (or_rng (grants_rng z _ (nth_mem hm.2)) (inB_rng ha))) z
  · rename_i h
    exact grantsE_ins h (hf.resolve_left h) hu ha z
/-- One object's private authority set. -/
def lowO (o : Secured) (i : Nat) (x : Int) : Secured := { o with grants := o.grants.set i ⟨(nth o.grants i).user, x⟩ }
def lowS (s : Sec) (k i : Nat) (x : Int) : Sec := { s with objects := s.objects.set k (lowO (nth s.objects k) i x) }
theorem like_low {s : Sec} {k i : Nat} {x : Int} (hk : k < s.objects.length) (hi : i < (nth s.objects k).grants.length) (hx : inB x 0 1023 = true) : Like s (lowS s k i x) :=
  like_obj hk rfl (fun z => grantsE_set hi hx z) (by rw [List.length_set]; omega)
theorem low_len {s : Sec} {k i : Nat} {x : Int} (hk : k < s.objects.length) (j : Nat) : (nth (lowS s k i x).objects j).grants.length ≤ (nth s.objects j).grants.length := by
  show (nth (s.objects.set k _) j).grants.length ≤ _
  rw [nth_set hk]; split
  · rename_i e; subst e; show (List.set _ _ _).length ≤ _; rw [List.length_set]; exact Nat.le_refl _
  · exact Nat.le_refl _
theorem like_acc {s t : Sec} (h : Like s t) (r : Req) (z : accErr s r = 0) : accErr t r = 0 := by
  have h2 : (secE s).2 = 0 := by
    rw [accErr] at z; split at z
    · rename_i h; exact absurd z h
    · rename_i h; exact Classical.not_not.1 h
  rw [accErr, if_neg (not_not_intro h2)] at z
  have e1 : userE t = userE s := funext fun n => by rw [userE, userE, h.ix]
  have e2 : ixE t = ixE s := funext fun n => by rw [ixE, ixE, h.ol]
  have e3 : reqE t r = reqE s r := by simp only [reqE, reqE0, adoE, e1, e2] <;> rfl
  rw [accErr, if_neg (not_not_intro (h.secE h2)), e3, z]

/-! ### Access with a private authority -/
/-- What a part of the whole says of a profile. -/
def stepA (s : Sec) (o : Secured) (a : ByteArray) (x : Int) : Int := if (itselfP s a o).2 = true then Go.bits .or .i64 x (itselfP s a o).1.auth else x
theorem ado_cons (s : Sec) (o : Secured) (n : Int) (a : ByteArray) (l : List ByteArray) (x : Int) : adoP s o n (a :: l) x = if incB (stepA s o a x) n = true then some (stepA s o a x, a) else adoP s o n l (stepA s o a x) := rfl
theorem step_rng {s : Sec} {o : Secured} (h : ∀ a, rng (itselfP s a o).1.auth) (a : ByteArray) {x : Int} (hx : rng x) : rng (stepA s o a x) := by
  rw [stepA]; split
  · exact or_rng hx (h a)
  · exact hx
theorem ado_mono {s t : Sec} {o o' : Secured} {n : Int} (hn : rng n) (h1 : ∀ a, rng (itselfP s a o).1.auth) (h2 : ∀ a, rng (itselfP t a o').1.auth)
    (hm : ∀ a x y, rng x → rng y → sub x y → sub (stepA s o a x) (stepA t o' a y)) : ∀ (l : List ByteArray) (x y : Int), rng x → rng y → sub x y → (adoP s o n l x).isSome = true → (adoP t o' n l y).isSome = true
  | [], x, y, _, _, _, h => by rw [adoP] at h; cases h
  | a :: l, x, y, hx, hy, hxy, h => by
    rw [ado_cons] at h ⊢
    have r1 := step_rng h1 a hx
    have r2 := step_rng h2 a hy
    have hs := hm a x y hx hy hxy
    by_cases q : incB (stepA t o' a y) n = true
    · rw [if_pos q]; rfl
    rw [if_neg q]
    split at h
    · rename_i p
      exact absurd ((incB_iff r2 hn).2 fun j hj => hs j ((incB_iff r1 hn).1 p j hj)) q
    · exact ado_mono hn h1 h2 hm l _ _ r1 r2 hs h
theorem acc_iff (s : Sec) (r : Req) : (accP s r).2 = true ↔ incB (authorityP s r.user (objOf s r.object)).auth r.needed = true ∨ (adoP s (objOf s r.object) r.needed r.adopters (authorityP s r.user (objOf s r.object)).auth).isSome = true := by
  rw [accP]
  split
  · rename_i h; exact ⟨fun _ => .inl h, fun _ => rfl⟩
  · rename_i h
    cases hq : adoP s (objOf s r.object) r.needed r.adopters (authorityP s r.user (objOf s r.object)).auth with
    | none => simp [h]
    | some v => simp
theorem acc_mono {s t : Sec} {r : Req} (hS : Sound1 s) (hT : Sound1 t) (hs : objOf s r.object ∈ s.objects) (ht : objOf t r.object ∈ t.objects) (hn : rng r.needed)
    (h0 : sub (authorityP s r.user (objOf s r.object)).auth (authorityP t r.user (objOf t r.object)).auth)
    (hm : ∀ a x y, rng x → rng y → sub x y → sub (stepA s (objOf s r.object) a x) (stepA t (objOf t r.object) a y)) (h : (accP s r).2 = true) : (accP t r).2 = true := by
  rw [acc_iff] at h ⊢
  have r1 := authority_rng hS (u := r.user) hs
  have r2 := authority_rng hT (u := r.user) ht
  rcases h with h | h
  · exact .inl ((incB_iff r2 hn).2 fun j hj => h0 j ((incB_iff r1 hn).1 h j hj))
  · exact .inr (ado_mono hn (fun a => itself_rng hS hs) (fun a => itself_rng hT ht) hm _ _ _ r1 r2 h0 h)
theorem sub_or {x y a b : Int} (hx : rng x) (hy : rng y) (ha : rng a) (hb : rng b) (h1 : sub x y) (h2 : sub a b) : sub (Go.bits .or .i64 x a) (Go.bits .or .i64 y b) := fun j h => by
  rw [tb_or hx ha, Bool.or_eq_true] at h
  rw [tb_or hy hb, Bool.or_eq_true]
  exact h.imp (h1 j) (h2 j)

/-- A whole like another, in which a user's private authority of an object is a given one. -/
structure Ent (s : Sec) (k : Nat) (u : ByteArray) (e : Int) (t : Sec) : Prop where
  ps : t.profiles = s.profiles
  ls : t.lists = s.lists
  ol : t.objects.length = s.objects.length
  ow : (nth t.objects k).owner = (nth s.objects k).owner
  li : (nth t.objects k).list = (nth s.objects k).list
  mine : privOf (nth t.objects k).grants u = some e
  rest : ∀ w, ¬ w = u → privOf (nth t.objects k).grants w = privOf (nth s.objects k).grants w
theorem Ent.prof {s t : Sec} {k : Nat} {u : ByteArray} {e : Int} (h : Ent s k u e t) (n : ByteArray) : profOf t n = profOf s n := by rw [profOf, profOf, profIx, profIx, h.ps]
theorem Ent.list {s t : Sec} {k : Nat} {u : ByteArray} {e : Int} (h : Ent s k u e t) (n : ByteArray) : listOf t n = listOf s n := by rw [listOf, listOf, listIx, listIx, h.ls]
theorem ent_itself {s t : Sec} {k : Nat} {u : ByteArray} {e : Int} (h : Ent s k u e t) : itselfP t u (nth t.objects k) = if ¬ Go.bits .and .i64 (profOf s u).special 1 = 0 then (⟨1023, 0, u⟩, true) else (⟨e, 1, u⟩, true) := by
  have hp := priv_some h.mine
  rw [itselfP, h.prof, if_pos hp.1, hp.2]
theorem ent_found {s t : Sec} {k : Nat} {u : ByteArray} {e : Int} (h : Ent s k u e t) : (itselfP t u (nth t.objects k)).2 = true := by
  rw [ent_itself h]; split <;> rfl
theorem ent_auth {s t : Sec} {k : Nat} {u : ByteArray} {e : Int} (h : Ent s k u e t) : (authorityP t u (nth t.objects k)).auth = (itselfP t u (nth t.objects k)).1.auth := by
  rw [authorityP, if_pos (ent_found h)]
theorem ent_rest {s t : Sec} {k : Nat} {u w : ByteArray} {e : Int} (h : Ent s k u e t) (hw : ¬ w = u) : itselfP t w (nth t.objects k) = itselfP s w (nth s.objects k) := by
  have hp := h.rest w hw
  rw [itselfP, itselfP, h.prof, h.ow, h.li]
  cases hs : privOf (nth s.objects k).grants w with
  | none =>
    rw [if_neg (priv_none (hp.trans hs)), if_neg (priv_none hs)]
    simp only [h.list]
  | some x =>
    have h1 := priv_some (hp.trans hs)
    have h2 := priv_some hs
    rw [if_pos h1.1, if_pos h2.1, h1.2, h2.2]
theorem ent_mono {s t1 t2 : Sec} {r : Req} {e1 e2 : Int} (h1 : Ent s r.object.toNat r.user e1 t1) (h2 : Ent s r.object.toNat r.user e2 t2) (S0 : Sound1 s) (S1 : Sound1 t1) (S2 : Sound1 t2) (i3 : r.object.toNat < s.objects.length) (hn : rng r.needed)
    (r1 : rng e1) (r2 : rng e2) (he : sub e1 e2) (h : (accP t1 r).2 = true) : (accP t2 r).2 = true := by
  have m0 : objOf s r.object ∈ s.objects := nth_mem i3
  have m1 : objOf t1 r.object ∈ t1.objects := nth_mem (by rw [h1.ol]; exact i3)
  have m2 : objOf t2 r.object ∈ t2.objects := nth_mem (by rw [h2.ol]; exact i3)
  have hI : sub (itselfP t1 r.user (objOf t1 r.object)).1.auth (itselfP t2 r.user (objOf t2 r.object)).1.auth := by
    rw [objOf, objOf, ent_itself h1, ent_itself h2]; split
    · exact sub_refl _
    · exact he
  refine acc_mono S1 S2 m1 m2 hn ?_ (fun a x y hx hy hxy => ?_) h
  · rw [objOf, objOf, ent_auth h1, ent_auth h2]; exact hI
  · by_cases q : a = r.user
    · subst q
      unfold stepA objOf
      rw [if_pos (ent_found h1), if_pos (ent_found h2)]
      exact sub_or hx hy (itself_rng S1 m1) (itself_rng S2 m2) hxy hI
    · have e1 := ent_rest h1 q
      have e2 := ent_rest h2 q
      rw [stepA, stepA, objOf, objOf, e1, e2]
      split
      · have := itself_rng S0 (u := a) m0
        exact sub_or hx hy this this hxy (sub_refl _)
      · exact hxy
theorem ent_add {s : Sec} {k : Nat} {u : ByteArray} {a : Int} (hk : k < s.objects.length) : Ent s k u (entA (nth s.objects k).grants u a) (addS s k u a) := by
  have e : nth (addS s k u a).objects k = addO (nth s.objects k) u a := by
    show nth (s.objects.set k _) k = _
    rw [nth_set hk, if_pos rfl]
  refine ⟨rfl, rfl, add_len, by rw [e]; rfl, by rw [e]; rfl, ?_, fun w hw => ?_⟩ <;> rw [e]
  · exact priv_add _ _ _
  · exact priv_add_ne hw
theorem ent_low {s t : Sec} {k : Nat} {u : ByteArray} {e x : Int} (h : Ent s k u e t) (hk : k < s.objects.length) : Ent s k u x (lowS t k (grantIx (nth t.objects k).grants u).toNat x) := by
  have hg := (priv_some h.mine).1
  have e : nth (lowS t k (grantIx (nth t.objects k).grants u).toNat x).objects k = lowO (nth t.objects k) (grantIx (nth t.objects k).grants u).toNat x := by
    show nth (t.objects.set k _) k = _
    rw [nth_set (by rw [h.ol]; exact hk), if_pos rfl]
  refine ⟨h.ps, h.ls, (List.length_set).trans h.ol, by rw [e]; exact h.ow, by rw [e]; exact h.li, ?_, fun w hw => ?_⟩
  · rw [e]; exact priv_set hg
  · rw [e]; exact (priv_set_ne hg hw).trans (h.rest w hw)

section
variable {s : Sec} {r : Req} (hS : Sound s) (z : 0 ≤ profIx s r.user ∧ (0 ≤ r.object ∧ r.object < (s.objects.length : Int) ∧ r.object.toNat < s.objects.length) ∧ (∀ a ∈ r.adopters, 0 ≤ profIx s a) ∧ inB r.needed 0 1023 = true ∧ r.adopters.length ≤ 6)
include hS z
theorem entA_rng {a : Int} (ha : rng a) : rng (entA (nth s.objects r.object.toNat).grants r.user a) := by
  rw [entA]
  cases hp : privOf (nth s.objects r.object.toNat).grants r.user with
  | none => exact ha
  | some x =>
    have h := priv_some hp
    refine or_rng ?_ ha
    rw [← h.2]
    exact grants_rng (hS.pgrants _ (nth_mem z.2.1.2.2)) _ (nth_mem (grant_hit h.1).2)
theorem entA_has {a : Int} (ha : rng a) : sub a (entA (nth s.objects r.object.toNat).grants r.user a) := fun j h => by
  rw [entA]
  cases hp : privOf (nth s.objects r.object.toNat).grants r.user with
  | none => exact h
  | some x =>
    have h2 := priv_some hp
    have hx : rng x := by rw [← h2.2]; exact grants_rng (hS.pgrants _ (nth_mem z.2.1.2.2)) _ (nth_mem (grant_hit h2.1).2)
    show tb (Go.bits .or .i64 x a) j = true
    rw [tb_or hx ha, h, Bool.or_true]
/-- All that is needed, granted, serves. -/
theorem acc_base : (accP (addS s r.object.toNat r.user r.needed) r).2 = true := by
  have hn := inB_rng z.2.2.2.1
  have i3 := z.2.1.2.2
  have h := ent_add (u := r.user) (a := r.needed) i3
  have hS1 := sound1_add (u := r.user) hS i3 z.2.2.2.1
  have m1 : objOf (addS s r.object.toNat r.user r.needed) r.object ∈ (addS s r.object.toNat r.user r.needed).objects := nth_mem (by rw [add_len]; exact i3)
  rw [acc_iff]
  refine .inl ((incB_iff (authority_rng hS1 m1) hn).2 ?_)
  rw [objOf, ent_auth h, ent_itself h]
  split
  · intro j hj
    obtain ⟨a, ha, hl⟩ := rng_nat hn
    rw [ha] at hj
    by_cases q : j < 10
    · have : ∀ j, j < 10 → tb 1023 j = true := by decide
      exact this j q
    · exfalso
      have : a.testBit j = false := Nat.testBit_lt_two_pow (Nat.lt_of_lt_of_le hl (Nat.pow_le_pow_right (show 0 < 2 by decide) (show 10 ≤ j by omega)))
      simp [tb, this] at hj
  · exact entA_has hS z hn
/-- Nothing granted serves no more than nothing. -/
theorem acc_zero (h : (accP (addS s r.object.toNat r.user 0) r).2 = true) : (accP s r).2 = true := by
  have hn := inB_rng z.2.2.2.1
  have i3 := z.2.1.2.2
  have hw := hS.weak
  have he := ent_add (u := r.user) (a := 0) i3
  have hS1 := sound1_add (u := r.user) (a := 0) hS i3 (by decide)
  have m0 : objOf s r.object ∈ s.objects := nth_mem i3
  have m1 : objOf (addS s r.object.toNat r.user 0) r.object ∈ (addS s r.object.toNat r.user 0).objects := nth_mem (by rw [add_len]; exact i3)
  cases hp : privOf (nth s.objects r.object.toNat).grants r.user with
  | some x =>
    have h2 := priv_some hp
    have hx : rng x := by rw [← h2.2]; exact grants_rng (hS.pgrants _ (nth_mem i3)) _ (nth_mem (grant_hit h2.1).2)
    have h3 : Ent s r.object.toNat r.user x s := ⟨rfl, rfl, rfl, rfl, rfl, hp, fun _ _ => rfl⟩
    have he0 : entA (nth s.objects r.object.toNat).grants r.user 0 = x := by rw [entA, hp]; exact or_zero hx
    rw [he0] at he
    exact ent_mono he h3 hw hS1 hw i3 hn hx hx (sub_refl _) h
  | none =>
    have he0 : entA (nth s.objects r.object.toNat).grants r.user 0 = 0 := by rw [entA, hp]
    rw [he0] at he
    have hall : ∀ x y, rng x → rng y → sub x y → sub (stepA (addS s r.object.toNat r.user 0) (objOf (addS s r.object.toNat r.user 0) r.object) r.user x) (stepA s (objOf s r.object) r.user y) := fun x y hx hy hxy => by
      rw [stepA, objOf, if_pos (ent_found he), ent_itself he]
      split
      · rename_i ha
        have : itselfP s r.user (objOf s r.object) = (⟨1023, 0, r.user⟩, true) := by rw [itselfP, if_pos ha]
        rw [stepA, this, if_pos rfl]
        exact sub_or hx hy (show rng 1023 from ⟨by decide, by decide⟩) (show rng 1023 from ⟨by decide, by decide⟩) hxy (sub_refl _)
      · show sub (Go.bits .or .i64 x 0) _
        rw [or_zero hx, stepA]
        split
        · intro j hj
          rw [tb_or hy (itself_rng hw m0), hxy j hj]; rfl
        · exact hxy
    refine acc_mono hS1 hw m1 m0 hn ?_ (fun a x y hx hy hxy => ?_) h
    · rw [objOf, ent_auth he, ent_itself he]
      split
      · rename_i ha
        have : itselfP s r.user (objOf s r.object) = (⟨1023, 0, r.user⟩, true) := by rw [itselfP, if_pos ha]
        rw [authorityP, this, if_pos rfl]; exact sub_refl _
      · exact sub_zero _
    · by_cases q : a = r.user
      · subst q; exact hall x y hx hy hxy
      · have e1 := ent_rest he q
        rw [stepA, stepA, objOf, objOf, e1]
        split
        · have := itself_rng hw (u := a) m0
          exact sub_or hx hy this this hxy (sub_refl _)
        · exact hxy
theorem least_acc : ∀ k, k ≤ 10 → (accP (addS s r.object.toNat r.user (leastN s r k)) r).2 = true
  | 0, _ => acc_base hS z
  | k + 1, hk => by
    rw [leastN]; split
    · rename_i h; exact h
    · exact least_acc k (by omega)
theorem least_ne (h : (accP s r).2 = false) : ¬ leastN s r 10 = 0 := fun e => by
  have := least_acc hS z 10 (Nat.le_refl _)
  rw [e] at this
  rw [acc_zero hS z this] at h; cases h
theorem least_sub (k : Nat) (hk : k < 10) : sub (leastN s r (k + 1)) (leastN s r k) := fun j h => by
  rw [leastN] at h; split at h
  · rw [tb_andNot (least_rng z.2.2.2.1 k (by omega)) hk, Bool.and_eq_true] at h; exact h.1
  · exact h
theorem least_down : ∀ d k, k + d ≤ 10 → sub (leastN s r (k + d)) (leastN s r k)
  | 0, k, _ => sub_refl _
  | d + 1, k, h => fun j hj => least_down d k (by omega) j (least_sub hS z (k + d) (by omega) j hj)
theorem least_kept {k : Nat} (hk : k < 10) (h : tb (leastN s r 10) k = true) : ¬ (accP (addS s r.object.toNat r.user (Go.bits .andNot .i64 (leastN s r k) (bitI k))) r).2 = true := fun ha => by
  have := least_down hS z (10 - (k + 1)) (k + 1) (by omega) k (by rw [show k + 1 + (10 - (k + 1)) = 10 by omega]; exact h)
  rw [leastN, if_pos ha, tb_andNot (least_rng z.2.2.2.1 k (by omega)) hk] at this
  simp at this
/-- Without one of its parts it doesn't serve. -/
theorem least_min {k : Nat} (hk : k < 10) (h : tb (leastN s r 10) k = true) {t : Sec} (hT : Sound1 t) (he : Ent s r.object.toNat r.user (Go.bits .andNot .i64 (entA (nth s.objects r.object.toNat).grants r.user (leastN s r 10)) (bitI k)) t) : (accP t r).2 = false := by
  have i3 := z.2.1.2.2
  have r10 := least_rng (s := s) (r := r) z.2.2.2.1 10 (Nat.le_refl _)
  have rk := least_rng (s := s) (r := r) z.2.2.2.1 k (by omega)
  have rk' := andNot_rng rk hk
  have hE := entA_rng hS z r10
  refine Bool.eq_false_iff.2 fun ha => least_kept hS z hk h (ent_mono he (ent_add i3) hS.weak hT (sound1_add hS i3 (rng_inB rk')) i3 (inB_rng z.2.2.2.1) (andNot_rng hE hk) (entA_rng hS z rk') (fun j hj => ?_) ha)
  rw [tb_andNot hE hk, Bool.and_eq_true] at hj
  have hd := least_down hS z (10 - k) k (by omega)
  rw [show k + (10 - k) = 10 by omega] at hd
  have hj1 := hj.1
  rw [entA] at hj1 ⊢
  cases hp : privOf (nth s.objects r.object.toNat).grants r.user with
  | none =>
    rw [hp] at hj1
    show tb (Go.bits .andNot .i64 (leastN s r k) (bitI k)) j = true
    rw [tb_andNot rk hk, hd j hj1, hj.2]; rfl
  | some x =>
    have h2 := priv_some hp
    have hx : rng x := by rw [← h2.2]; exact grants_rng (hS.pgrants _ (nth_mem i3)) _ (nth_mem (grant_hit h2.1).2)
    rw [hp] at hj1
    have hj2 : tb (Go.bits .or .i64 x (leastN s r 10)) j = true := hj1
    show tb (Go.bits .or .i64 x (Go.bits .andNot .i64 (leastN s r k) (bitI k))) j = true
    rw [tb_or hx r10, Bool.or_eq_true] at hj2
    rw [tb_or hx rk', tb_andNot rk hk, Bool.or_eq_true, Bool.and_eq_true]
    exact hj2.imp id fun q => ⟨hd j q, hj.2⟩
end
end Go.Proofs.Ytdmcmfdmnlckdaa.C10
/- Chapter 10: granting and revoking: the errors; two wholes that are the same. -/
namespace Go.Proofs.Ytdmcmfdmnlckdaa.C10
open Go Go.Proofs Go.Proofs.Ytdmcmfdmnlckdaa.Ab
set_option linter.unusedSimpArgs false
set_option linter.unusedSectionVars false
set_option linter.unusedVariables false
attribute [local congr] ite_ctx

def chE0 (s : Sec) (b : ByteArray) (g : GReq) : Int := firstE [(secE s).2, userE s b, userE s g.user, ixE s g.object, if (!inB g.auth 0 1023) = true then 3 else 0]
def chE1 (s : Sec) (b : ByteArray) (g : GReq) : Int := if (!incB (authorityP s b (objOf s g.object)).auth (Go.bits .or .i64 2 g.auth)) = true then 23 else 0
def chE (s : Sec) (b : ByteArray) (g : GReq) : Int := if ¬ chE0 s b g = 0 then chE0 s b g else chE1 s b g
theorem chE0_zero {s : Sec} {b : ByteArray} {g : GReq} (h : chE0 s b g = 0) : (secE s).2 = 0 ∧ userE s b = 0 ∧ userE s g.user = 0 ∧ ixE s g.object = 0 ∧ inB g.auth 0 1023 = true := by
  have z := firstE_zero h
  simp only [List.mem_cons, List.not_mem_nil, or_false, forall_eq_or_imp, forall_eq] at z
  refine ⟨z.1, z.2.1, z.2.2.1, z.2.2.2.1, ?_⟩
  have := ite_zero (by decide) z.2.2.2.2
  simpa using this

set_option maxHeartbeats 4000000 in
theorem changeErr_good (s : Sec) (b : ByteArray) (g : GReq) (hs : Fit s) : Ans Try.prog 87 [.agg (encSec s), .str b, .agg (encGReq g)] (.int .i64 (chE s b g)) := by
  have hE : chE0 s b g = firstE [(secE s).2, userE s b, userE s g.user, ixE s g.object, if (!inB g.auth 0 1023) = true then 3 else 0] := rfl
  have hE1 : chE1 s b g = if (!incB (authorityP s b (objOf s g.object)).auth (Go.bits .or .i64 2 g.auth)) = true then 23 else 0 := rfl
  refine good_run [] mixed Try.func87 rfl Try.ntmps87 (rs := [.tmp 6]) rfl (by decide +kernel) (by kernel_rfl) rfl ?_
  rw [startE_eq 47 _ _ _ rfl rfl]
  set_option maxRecDepth 100000 in simp (maxSteps := 10000000) only [go_sem, Nat.reduceAdd, Nat.reduceSub, Nat.reduceMul, Nat.reduceLT, Nat.reduceLeDiff, Nat.reduceEqDiff, Nat.reduceMod, Nat.reduceDiv, Int.reduceNeg, Int.reduceLE, Int.reduceLT, Int.reduceToNat, Int.reduceEq, Int.reduceNe, ↓reduceIte]
  refine callD_of (securityErr_good s hs) ?_
  set_option maxRecDepth 100000 in simp (maxSteps := 10000000) only [go_sem, Nat.reduceAdd, Nat.reduceSub, Nat.reduceMul, Nat.reduceLT, Nat.reduceLeDiff, Nat.reduceEqDiff, Nat.reduceMod, Nat.reduceDiv, Int.reduceNeg, Int.reduceLE, Int.reduceLT, Int.reduceToNat, Int.reduceEq, Int.reduceNe, ↓reduceIte]
  refine callD_of (userErr_good s b hs) ?_
  set_option maxRecDepth 100000 in simp (maxSteps := 10000000) only [go_sem, Nat.reduceAdd, Nat.reduceSub, Nat.reduceMul, Nat.reduceLT, Nat.reduceLeDiff, Nat.reduceEqDiff, Nat.reduceMod, Nat.reduceDiv, Int.reduceNeg, Int.reduceLE, Int.reduceLT, Int.reduceToNat, Int.reduceEq, Int.reduceNe, ↓reduceIte]
  refine callD_of (userErr_good s g.user hs) ?_
  set_option maxRecDepth 100000 in simp (maxSteps := 10000000) only [go_sem, Nat.reduceAdd, Nat.reduceSub, Nat.reduceMul, Nat.reduceLT, Nat.reduceLeDiff, Nat.reduceEqDiff, Nat.reduceMod, Nat.reduceDiv, Int.reduceNeg, Int.reduceLE, Int.reduceLT, Int.reduceToNat, Int.reduceEq, Int.reduceNe, ↓reduceIte]
  refine callD_of (objectErr_good s g.object hs) ?_
  set_option maxRecDepth 100000 in simp (maxSteps := 10000000) only [go_sem, Nat.reduceAdd, Nat.reduceSub, Nat.reduceMul, Nat.reduceLT, Nat.reduceLeDiff, Nat.reduceEqDiff, Nat.reduceMod, Nat.reduceDiv, Int.reduceNeg, Int.reduceLE, Int.reduceLT, Int.reduceToNat, Int.reduceEq, Int.reduceNe, ↓reduceIte]
  refine callD_of (isAuthority_good g.auth) ?_
  set_option maxRecDepth 100000 in simp (maxSteps := 10000000) only [go_sem, Nat.reduceAdd, Nat.reduceSub, Nat.reduceMul, Nat.reduceLT, Nat.reduceLeDiff, Nat.reduceEqDiff, Nat.reduceMod, Nat.reduceDiv, Int.reduceNeg, Int.reduceLE, Int.reduceLT, Int.reduceToNat, Int.reduceEq, Int.reduceNe, ↓reduceIte]
  refine callD_of (cond_good _ _) ?_
  set_option maxRecDepth 100000 in simp (maxSteps := 10000000) only [go_sem, Nat.reduceAdd, Nat.reduceSub, Nat.reduceMul, Nat.reduceLT, Nat.reduceLeDiff, Nat.reduceEqDiff, Nat.reduceMod, Nat.reduceDiv, Int.reduceNeg, Int.reduceLE, Int.reduceLT, Int.reduceToNat, Int.reduceEq, Int.reduceNe, ↓reduceIte]
  refine callD_of (first5_good _ _ _ _ _) ?_
  set_option maxRecDepth 100000 in simp (maxSteps := 10000000) only [go_sem, Nat.reduceAdd, Nat.reduceSub, Nat.reduceMul, Nat.reduceLT, Nat.reduceLeDiff, Nat.reduceEqDiff, Nat.reduceMod, Nat.reduceDiv, Int.reduceNeg, Int.reduceLE, Int.reduceLT, Int.reduceToNat, Int.reduceEq, Int.reduceNe, ↓reduceIte]
  refine ⟨by decide +kernel, ifI (fun h => ?_) fun h => ?_⟩
  · set_option maxRecDepth 100000 in simp (maxSteps := 10000000) only [go_sem, Nat.reduceAdd, Nat.reduceSub, Nat.reduceMul, Nat.reduceLT, Nat.reduceLeDiff, Nat.reduceEqDiff, Nat.reduceMod, Nat.reduceDiv, Int.reduceNeg, Int.reduceLE, Int.reduceLT, Int.reduceToNat, Int.reduceEq, Int.reduceNe, ↓reduceIte]
    have h' : ¬ chE0 s b g = 0 := h
    rw [chE, if_pos h']; rfl
  have h0 : chE0 s b g = 0 := Classical.not_not.1 h
  have hR : chE s b g = chE1 s b g := by rw [chE, if_neg (not_not_intro h0)]
  have hz := chE0_zero h0
  have hS := sound_of hs hz.1
  have hix := ixE_zero hz.2.2.2.1
  have i1 := hix.1; have i2 := hix.2.1; have i3 := hix.2.2
  have hoo : nth s.objects g.object.toNat = objOf s g.object := rfl
  have hmem : objOf s g.object ∈ s.objects := nth_mem i3
  set_option maxRecDepth 100000 in simp (maxSteps := 10000000) only [go_sem, Nat.reduceAdd, Nat.reduceSub, Nat.reduceMul, Nat.reduceLT, Nat.reduceLeDiff, Nat.reduceEqDiff, Nat.reduceMod, Nat.reduceDiv, Int.reduceNeg, Int.reduceLE, Int.reduceLT, Int.reduceToNat, Int.reduceEq, Int.reduceNe, ↓reduceIte,  i1, i2, i3, hoo]
  refine callD_of (authority_good s b (objOf s g.object) hs hS.grouped (userE_zero hz.2.1) (hS.listed _ hmem) (hS.byList _ hmem)) ?_
  set_option maxRecDepth 100000 in simp (maxSteps := 10000000) only [go_sem, Nat.reduceAdd, Nat.reduceSub, Nat.reduceMul, Nat.reduceLT, Nat.reduceLeDiff, Nat.reduceEqDiff, Nat.reduceMod, Nat.reduceDiv, Int.reduceNeg, Int.reduceLE, Int.reduceLT, Int.reduceToNat, Int.reduceEq, Int.reduceNe, ↓reduceIte]
  refine callD_of (includes_good _ _) ?_
  set_option maxRecDepth 100000 in simp (maxSteps := 10000000) only [go_sem, Nat.reduceAdd, Nat.reduceSub, Nat.reduceMul, Nat.reduceLT, Nat.reduceLeDiff, Nat.reduceEqDiff, Nat.reduceMod, Nat.reduceDiv, Int.reduceNeg, Int.reduceLE, Int.reduceLT, Int.reduceToNat, Int.reduceEq, Int.reduceNe, ↓reduceIte]
  refine callD_of (cond_good _ _) ?_
  set_option maxRecDepth 100000 in simp (maxSteps := 10000000) only [go_sem, Nat.reduceAdd, Nat.reduceSub, Nat.reduceMul, Nat.reduceLT, Nat.reduceLeDiff, Nat.reduceEqDiff, Nat.reduceMod, Nat.reduceDiv, Int.reduceNeg, Int.reduceLE, Int.reduceLT, Int.reduceToNat, Int.reduceEq, Int.reduceNe, ↓reduceIte]
  refine ⟨by decide +kernel, ?_⟩
  rw [hR, hE1]

set_option maxHeartbeats 4000000 in
theorem ChangeErr_good (s : Sec) (b : ByteArray) (g : GReq) (hs : Fit s) : Ans Try.prog 52 [.agg (encSec s), .str b, .agg (encGReq g)] (.int .i64 (chE s b g)) := by
  have hE : chE0 s b g = firstE [(secE s).2, userE s b, userE s g.user, ixE s g.object, if (!inB g.auth 0 1023) = true then 3 else 0] := rfl
  have hE1 : chE1 s b g = if (!incB (authorityP s b (objOf s g.object)).auth (Go.bits .or .i64 2 g.auth)) = true then 23 else 0 := rfl
  have hlen : IntKind.wrap .i64 ((s.objects.length : Int) - 1) = (s.objects.length : Int) - 1 := by
    have := hs.objects
    rw [wrap_i64 (by omega) (by omega)]
  refine good_run [] mixed Try.func52 rfl Try.ntmps52 (rs := [.tmp 6]) rfl (by decide +kernel) (by kernel_rfl) rfl ?_
  rw [startE_eq 49 _ _ _ rfl rfl]
  set_option maxRecDepth 100000 in simp (maxSteps := 10000000) only [go_sem, Nat.reduceAdd, Nat.reduceSub, Nat.reduceMul, Nat.reduceLT, Nat.reduceLeDiff, Nat.reduceEqDiff, Nat.reduceMod, Nat.reduceDiv, Int.reduceNeg, Int.reduceLE, Int.reduceLT, Int.reduceToNat, Int.reduceEq, Int.reduceNe, ↓reduceIte]
  refine call_of (Err_good s hs) ?_
  set_option maxRecDepth 100000 in simp (maxSteps := 10000000) only [go_sem, Nat.reduceAdd, Nat.reduceSub, Nat.reduceMul, Nat.reduceLT, Nat.reduceLeDiff, Nat.reduceEqDiff, Nat.reduceMod, Nat.reduceDiv, Int.reduceNeg, Int.reduceLE, Int.reduceLT, Int.reduceToNat, Int.reduceEq, Int.reduceNe, ↓reduceIte]
  refine ifI (fun h1 => ?_) fun h1 => ?_
  · set_option maxRecDepth 100000 in simp (maxSteps := 10000000) only [go_sem, Nat.reduceAdd, Nat.reduceSub, Nat.reduceMul, Nat.reduceLT, Nat.reduceLeDiff, Nat.reduceEqDiff, Nat.reduceMod, Nat.reduceDiv, Int.reduceNeg, Int.reduceLE, Int.reduceLT, Int.reduceToNat, Int.reduceEq, Int.reduceNe, ↓reduceIte]
    have h' : chE0 s b g = (secE s).2 := by rw [hE, firstE, if_neg h1]
    rw [chE, h', if_pos h1]
  have h1' : (secE s).2 = 0 := Classical.not_not.1 h1
  set_option maxRecDepth 100000 in simp (maxSteps := 10000000) only [go_sem, Nat.reduceAdd, Nat.reduceSub, Nat.reduceMul, Nat.reduceLT, Nat.reduceLeDiff, Nat.reduceEqDiff, Nat.reduceMod, Nat.reduceDiv, Int.reduceNeg, Int.reduceLE, Int.reduceLT, Int.reduceToNat, Int.reduceEq, Int.reduceNe, ↓reduceIte]
  refine call_of (User_good s b hs.profiles) ?_
  set_option maxRecDepth 100000 in simp (maxSteps := 10000000) only [go_sem, Nat.reduceAdd, Nat.reduceSub, Nat.reduceMul, Nat.reduceLT, Nat.reduceLeDiff, Nat.reduceEqDiff, Nat.reduceMod, Nat.reduceDiv, Int.reduceNeg, Int.reduceLE, Int.reduceLT, Int.reduceToNat, Int.reduceEq, Int.reduceNe, ↓reduceIte]
  refine Classical.byCases (fun h2 : findIx (fun p => decide (p.name = b)) s.profiles 0 = -1 => ?_) fun h2 => ?_
  · have h' : chE0 s b g = 11 := by rw [hE, h1', user_neg.1 h2]; rfl
    have hR : chE s b g = 11 := by rw [chE, h']; rfl
    set_option maxRecDepth 100000 in simp (maxSteps := 10000000) only [go_sem, Nat.reduceAdd, Nat.reduceSub, Nat.reduceMul, Nat.reduceLT, Nat.reduceLeDiff, Nat.reduceEqDiff, Nat.reduceMod, Nat.reduceDiv, Int.reduceNeg, Int.reduceLE, Int.reduceLT, Int.reduceToNat, Int.reduceEq, Int.reduceNe, ↓reduceIte,  h2, decide_true, hR]
  have e2 : userE s b = 0 := user_ok h2
  set_option maxRecDepth 100000 in simp (maxSteps := 10000000) only [go_sem, Nat.reduceAdd, Nat.reduceSub, Nat.reduceMul, Nat.reduceLT, Nat.reduceLeDiff, Nat.reduceEqDiff, Nat.reduceMod, Nat.reduceDiv, Int.reduceNeg, Int.reduceLE, Int.reduceLT, Int.reduceToNat, Int.reduceEq, Int.reduceNe, ↓reduceIte,  h2, decide_false]
  refine call_of (User_good s g.user hs.profiles) ?_
  set_option maxRecDepth 100000 in simp (maxSteps := 10000000) only [go_sem, Nat.reduceAdd, Nat.reduceSub, Nat.reduceMul, Nat.reduceLT, Nat.reduceLeDiff, Nat.reduceEqDiff, Nat.reduceMod, Nat.reduceDiv, Int.reduceNeg, Int.reduceLE, Int.reduceLT, Int.reduceToNat, Int.reduceEq, Int.reduceNe, ↓reduceIte]
  refine Classical.byCases (fun h3 : findIx (fun p => decide (p.name = g.user)) s.profiles 0 = -1 => ?_) fun h3 => ?_
  · have h' : chE0 s b g = 11 := by rw [hE, h1', e2, user_neg.1 h3]; rfl
    have hR : chE s b g = 11 := by rw [chE, h']; rfl
    set_option maxRecDepth 100000 in simp (maxSteps := 10000000) only [go_sem, Nat.reduceAdd, Nat.reduceSub, Nat.reduceMul, Nat.reduceLT, Nat.reduceLeDiff, Nat.reduceEqDiff, Nat.reduceMod, Nat.reduceDiv, Int.reduceNeg, Int.reduceLE, Int.reduceLT, Int.reduceToNat, Int.reduceEq, Int.reduceNe, ↓reduceIte,  h3, decide_true, hR]
  have e3 : userE s g.user = 0 := user_ok h3
  set_option maxRecDepth 100000 in simp (maxSteps := 10000000) only [go_sem, Nat.reduceAdd, Nat.reduceSub, Nat.reduceMul, Nat.reduceLT, Nat.reduceLeDiff, Nat.reduceEqDiff, Nat.reduceMod, Nat.reduceDiv, Int.reduceNeg, Int.reduceLE, Int.reduceLT, Int.reduceToNat, Int.reduceEq, Int.reduceNe, ↓reduceIte,  h3, decide_false, hlen]
  refine call_of (Within_good _ _ _) ?_
  set_option maxRecDepth 100000 in simp (maxSteps := 10000000) only [go_sem, Nat.reduceAdd, Nat.reduceSub, Nat.reduceMul, Nat.reduceLT, Nat.reduceLeDiff, Nat.reduceEqDiff, Nat.reduceMod, Nat.reduceDiv, Int.reduceNeg, Int.reduceLE, Int.reduceLT, Int.reduceToNat, Int.reduceEq, Int.reduceNe, ↓reduceIte]
  cases h4 : inB g.object 0 ((s.objects.length : Int) - 1) with
  | false =>
    have h' : chE0 s b g = 3 := by rw [hE, h1', e2, e3, ixE, h4]; rfl
    have hR : chE s b g = 3 := by rw [chE, h']; rfl
    set_option maxRecDepth 100000 in simp (maxSteps := 10000000) only [go_sem, Nat.reduceAdd, Nat.reduceSub, Nat.reduceMul, Nat.reduceLT, Nat.reduceLeDiff, Nat.reduceEqDiff, Nat.reduceMod, Nat.reduceDiv, Int.reduceNeg, Int.reduceLE, Int.reduceLT, Int.reduceToNat, Int.reduceEq, Int.reduceNe, ↓reduceIte,  Bool.not_false, hR]
  | true =>
  have e4 : ixE s g.object = 0 := by rw [ixE, h4]; rfl
  set_option maxRecDepth 100000 in simp (maxSteps := 10000000) only [go_sem, Nat.reduceAdd, Nat.reduceSub, Nat.reduceMul, Nat.reduceLT, Nat.reduceLeDiff, Nat.reduceEqDiff, Nat.reduceMod, Nat.reduceDiv, Int.reduceNeg, Int.reduceLE, Int.reduceLT, Int.reduceToNat, Int.reduceEq, Int.reduceNe, ↓reduceIte,  Bool.not_true]
  refine call_of (IsAuthority_good _) ?_
  set_option maxRecDepth 100000 in simp (maxSteps := 10000000) only [go_sem, Nat.reduceAdd, Nat.reduceSub, Nat.reduceMul, Nat.reduceLT, Nat.reduceLeDiff, Nat.reduceEqDiff, Nat.reduceMod, Nat.reduceDiv, Int.reduceNeg, Int.reduceLE, Int.reduceLT, Int.reduceToNat, Int.reduceEq, Int.reduceNe, ↓reduceIte]
  cases h5 : inB g.auth 0 1023 with
  | false =>
    have h' : chE0 s b g = 3 := by rw [hE, h1', e2, e3, e4, h5]; rfl
    have hR : chE s b g = 3 := by rw [chE, h']; rfl
    set_option maxRecDepth 100000 in simp (maxSteps := 10000000) only [go_sem, Nat.reduceAdd, Nat.reduceSub, Nat.reduceMul, Nat.reduceLT, Nat.reduceLeDiff, Nat.reduceEqDiff, Nat.reduceMod, Nat.reduceDiv, Int.reduceNeg, Int.reduceLE, Int.reduceLT, Int.reduceToNat, Int.reduceEq, Int.reduceNe, ↓reduceIte,  Bool.not_false, hR]
  | true =>
  have h0 : chE0 s b g = 0 := by rw [hE, h1', e2, e3, e4, h5]; rfl
  have hR : chE s b g = chE1 s b g := by rw [chE, if_neg (not_not_intro h0)]
  set_option maxRecDepth 100000 in simp (maxSteps := 10000000) only [go_sem, Nat.reduceAdd, Nat.reduceSub, Nat.reduceMul, Nat.reduceLT, Nat.reduceLeDiff, Nat.reduceEqDiff, Nat.reduceMod, Nat.reduceDiv, Int.reduceNeg, Int.reduceLE, Int.reduceLT, Int.reduceToNat, Int.reduceEq, Int.reduceNe, ↓reduceIte,  Bool.not_true]
  refine callD_of (Authority_good s b g.object (sound_of hs h1') (userE_zero e2) (ixE_zero e4)) ?_
  set_option maxRecDepth 100000 in simp (maxSteps := 10000000) only [go_sem, Nat.reduceAdd, Nat.reduceSub, Nat.reduceMul, Nat.reduceLT, Nat.reduceLeDiff, Nat.reduceEqDiff, Nat.reduceMod, Nat.reduceDiv, Int.reduceNeg, Int.reduceLE, Int.reduceLT, Int.reduceToNat, Int.reduceEq, Int.reduceNe, ↓reduceIte]
  refine callD_of (Union_good _ _) ?_
  set_option maxRecDepth 100000 in simp (maxSteps := 10000000) only [go_sem, Nat.reduceAdd, Nat.reduceSub, Nat.reduceMul, Nat.reduceLT, Nat.reduceLeDiff, Nat.reduceEqDiff, Nat.reduceMod, Nat.reduceDiv, Int.reduceNeg, Int.reduceLE, Int.reduceLT, Int.reduceToNat, Int.reduceEq, Int.reduceNe, ↓reduceIte]
  refine callD_of (Includes_good _ _) ?_
  set_option maxRecDepth 100000 in simp (maxSteps := 10000000) only [go_sem, Nat.reduceAdd, Nat.reduceSub, Nat.reduceMul, Nat.reduceLT, Nat.reduceLeDiff, Nat.reduceEqDiff, Nat.reduceMod, Nat.reduceDiv, Int.reduceNeg, Int.reduceLE, Int.reduceLT, Int.reduceToNat, Int.reduceEq, Int.reduceNe, ↓reduceIte]
  refine ⟨by decide +kernel, ?_⟩
  rw [hR, hE1]
  refine ifI (fun h6 => ?_) fun h6 => ?_
  · set_option maxRecDepth 100000 in simp (maxSteps := 10000000) only [go_sem, Nat.reduceAdd, Nat.reduceSub, Nat.reduceMul, Nat.reduceLT, Nat.reduceLeDiff, Nat.reduceEqDiff, Nat.reduceMod, Nat.reduceDiv, Int.reduceNeg, Int.reduceLE, Int.reduceLT, Int.reduceToNat, Int.reduceEq, Int.reduceNe, ↓reduceIte]
    rw [if_pos (by simpa using h6)]
  · set_option maxRecDepth 100000 in simp (maxSteps := 10000000) only [go_sem, Nat.reduceAdd, Nat.reduceSub, Nat.reduceMul, Nat.reduceLT, Nat.reduceLeDiff, Nat.reduceEqDiff, Nat.reduceMod, Nat.reduceDiv, Int.reduceNeg, Int.reduceLE, Int.reduceLT, Int.reduceToNat, Int.reduceEq, Int.reduceNe, ↓reduceIte]
    rw [if_neg (by simpa using h6)]

theorem none_good : Ans Try.prog 53 [.agg [.nils, .nils, .nils]] (.bool true) := by
  refine good_run [] mixed Try.func53 rfl Try.ntmps53 (rs := [.tmp 2]) rfl (by decide +kernel) (by kernel_rfl) rfl ?_
  rw [startE_eq 19 _ _ _ rfl rfl]
  set_option maxRecDepth 100000 in simp (maxSteps := 10000000) only [go_sem, Nat.reduceAdd, Nat.reduceSub, Nat.reduceMul, Nat.reduceLT, Nat.reduceLeDiff, Nat.reduceEqDiff, Nat.reduceMod, Nat.reduceDiv, Int.reduceNeg, Int.reduceLE, Int.reduceLT, Int.reduceToNat, Int.reduceEq, Int.reduceNe, ↓reduceIte]
theorem sameGrants_same (l : List Grant) (h : l.length ≤ 1000000) : Ans Try.prog 89 [.sl (l.map encGrant), .sl (l.map encGrant)] (.bool true) := by
  refine good_run [(4, [4, 11, 12, 13, 14, 15, 16, 17, 18, 19, 20, 21, 22, 23, 24, 25], [])] mixed Try.func89 rfl Try.ntmps89 (rs := [.tmp 4]) rfl (by decide +kernel) (by kernel_rfl) rfl ?_
  rw [startE_eq 26 _ _ _ rfl rfl]
  set_option maxRecDepth 100000 in simp (maxSteps := 10000000) only [go_sem, Nat.reduceAdd, Nat.reduceSub, Nat.reduceMul, Nat.reduceLT, Nat.reduceLeDiff, Nat.reduceEqDiff, Nat.reduceMod, Nat.reduceDiv, Int.reduceNeg, Int.reduceLE, Int.reduceLT, Int.reduceToNat, Int.reduceEq, Int.reduceNe, ↓reduceIte,  eq_self, not_true_eq_false, decide_false]
  refine loop_by ([4, 11, 12, 13, 14, 15, 16, 17, 18, 19, 20, 21, 22, 23, 24, 25], []) (fun i : Nat => [(.s 5, .int .i64 (i : Int))]) (fun i => l.length - i) (fun i => i ≤ l.length) 0 rfl (Nat.zero_le _) rfl ?_
  rintro c' st' hst i hi ih
  set_option maxRecDepth 100000 in simp (maxSteps := 10000000) only [go_sem, Nat.reduceAdd, Nat.reduceSub, Nat.reduceMul, Nat.reduceLT, Nat.reduceLeDiff, Nat.reduceEqDiff, Nat.reduceMod, Nat.reduceDiv, Int.reduceNeg, Int.reduceLE, Int.reduceLT, Int.reduceToNat, Int.reduceEq, Int.reduceNe, ↓reduceIte]
  refine ifI (fun hlt => ?_) fun hlt => ?_
  · have hq : (List.map encGrant l)[i]? = some (encGrant (nth l i)) := at_map hlt
    set_option maxRecDepth 100000 in simp (maxSteps := 10000000) only [go_sem, Nat.reduceAdd, Nat.reduceSub, Nat.reduceMul, Nat.reduceLT, Nat.reduceLeDiff, Nat.reduceEqDiff, Nat.reduceMod, Nat.reduceDiv, Int.reduceNeg, Int.reduceLE, Int.reduceLT, Int.reduceToNat, Int.reduceEq, Int.reduceNe, ↓reduceIte,  hlt, hq, Option.map_some, eq_self, decide_true, Bool.and_self, Bool.not_true, not_true_eq_false]
    refine ⟨by decide +kernel, ?_⟩
    refine ih (i + 1) _ (by omega) (by omega) ?_
    set_option maxRecDepth 100000 in simp (maxSteps := 10000000) only [go_sem, Nat.reduceAdd, Nat.reduceSub, Nat.reduceMul, Nat.reduceLT, Nat.reduceLeDiff, Nat.reduceEqDiff, Nat.reduceMod, Nat.reduceDiv, Int.reduceNeg, Int.reduceLE, Int.reduceLT, Int.reduceToNat, Int.reduceEq, Int.reduceNe, ↓reduceIte,  wrap_succ (show i < 9223372036854775807 by omega)]
  · subst hst
    set_option maxRecDepth 100000 in simp (maxSteps := 10000000) only [go_sem, Nat.reduceAdd, Nat.reduceSub, Nat.reduceMul, Nat.reduceLT, Nat.reduceLeDiff, Nat.reduceEqDiff, Nat.reduceMod, Nat.reduceDiv, Int.reduceNeg, Int.reduceLE, Int.reduceLT, Int.reduceToNat, Int.reduceEq, Int.reduceNe, ↓reduceIte]

set_option maxHeartbeats 8000000 in
theorem Same_good (s : Sec) (hs : Fit s) : Ans Try.prog 54 [.agg (encSec s), .agg (encSec s)] (.bool true) := by
  refine good_run [(16, [4, 12, 13, 120, 121, 122, 123, 124, 125, 126, 127, 128, 129, 130, 131, 132, 133, 134, 135, 136, 137, 138, 139, 140, 141, 142, 143, 144, 145, 146, 147, 148, 149, 150, 151, 152, 153, 154, 155, 156, 157, 158, 159, 160, 161, 162, 163, 164, 165, 166, 167, 168, 169, 170, 171, 172, 173, 174, 175, 176, 177], [12, 13]), (10, [4, 9, 10, 76, 77, 78, 79, 80, 81, 82, 83, 84, 85, 86, 87, 88, 89, 90, 91, 92, 93, 94, 95, 96, 97, 98, 99, 100, 101, 102, 103, 104, 105, 106, 107, 108, 109, 110, 111, 112, 113, 114, 115, 116, 117, 118, 119], [9, 10]), (4, [4, 6, 7, 39, 40, 41, 42, 43, 44, 45, 46, 47, 48, 49, 50, 51, 52, 53, 54, 55, 56, 57, 58, 59, 60, 61, 62, 63, 64, 65, 66, 67, 68, 69, 70, 71, 72, 73, 74, 75], [6, 7])] mixed Try.func54 rfl Try.ntmps54 (rs := [.tmp 4]) rfl (by decide +kernel) (by kernel_rfl) rfl ?_
  rw [startE_eq 178 _ _ _ rfl rfl]
  set_option maxRecDepth 100000 in simp (maxSteps := 10000000) only [go_sem, Nat.reduceAdd, Nat.reduceSub, Nat.reduceMul, Nat.reduceLT, Nat.reduceLeDiff, Nat.reduceEqDiff, Nat.reduceMod, Nat.reduceDiv, Int.reduceNeg, Int.reduceLE, Int.reduceLT, Int.reduceToNat, Int.reduceEq, Int.reduceNe, ↓reduceIte,  eq_self, not_true_eq_false, decide_false]
  refine loop_by ([4, 6, 7, 39, 40, 41, 42, 43, 44, 45, 46, 47, 48, 49, 50, 51, 52, 53, 54, 55, 56, 57, 58, 59, 60, 61, 62, 63, 64, 65, 66, 67, 68, 69, 70, 71, 72, 73, 74, 75], [6, 7]) (fun i : Nat => [(.s 5, .int .i64 (i : Int)), (.o 6, deadV i), (.o 7, deadV i)]) (fun i => s.profiles.length - i) (fun i => i ≤ s.profiles.length) 0 rfl (Nat.zero_le _) rfl ?_
  rintro c' st' hst i hi ih
  set_option maxRecDepth 100000 in simp (maxSteps := 10000000) only [go_sem, Nat.reduceAdd, Nat.reduceSub, Nat.reduceMul, Nat.reduceLT, Nat.reduceLeDiff, Nat.reduceEqDiff, Nat.reduceMod, Nat.reduceDiv, Int.reduceNeg, Int.reduceLE, Int.reduceLT, Int.reduceToNat, Int.reduceEq, Int.reduceNe, ↓reduceIte]
  refine ifI (fun hlt => ?_) fun hlt => ?_
  · have hq : (List.map encProf s.profiles)[i]? = some (encProf (nth s.profiles i)) := at_map hlt
    set_option maxRecDepth 100000 in simp (maxSteps := 10000000) only [go_sem, Nat.reduceAdd, Nat.reduceSub, Nat.reduceMul, Nat.reduceLT, Nat.reduceLeDiff, Nat.reduceEqDiff, Nat.reduceMod, Nat.reduceDiv, Int.reduceNeg, Int.reduceLE, Int.reduceLT, Int.reduceToNat, Int.reduceEq, Int.reduceNe, ↓reduceIte,  hlt, hq, Option.map_some, eq_self, not_true_eq_false, decide_false]
    refine ⟨by decide +kernel, ?_⟩
    refine call_of (Strings_same _ (hs.groups _ (nth_mem hlt))) ?_
    set_option maxRecDepth 100000 in simp (maxSteps := 10000000) only [go_sem, Nat.reduceAdd, Nat.reduceSub, Nat.reduceMul, Nat.reduceLT, Nat.reduceLeDiff, Nat.reduceEqDiff, Nat.reduceMod, Nat.reduceDiv, Int.reduceNeg, Int.reduceLE, Int.reduceLT, Int.reduceToNat, Int.reduceEq, Int.reduceNe, ↓reduceIte,  Bool.not_true]
    refine ih (i + 1) _ (by omega) (by omega) ?_
    set_option maxRecDepth 100000 in simp (maxSteps := 10000000) only [go_sem, Nat.reduceAdd, Nat.reduceSub, Nat.reduceMul, Nat.reduceLT, Nat.reduceLeDiff, Nat.reduceEqDiff, Nat.reduceMod, Nat.reduceDiv, Int.reduceNeg, Int.reduceLE, Int.reduceLT, Int.reduceToNat, Int.reduceEq, Int.reduceNe, ↓reduceIte,  wrap_succ (show i < 9223372036854775807 by have := hs.profiles; omega)]
  subst hst
  clear ih hi hlt
  set_option maxRecDepth 100000 in simp (maxSteps := 10000000) only [go_sem, Nat.reduceAdd, Nat.reduceSub, Nat.reduceMul, Nat.reduceLT, Nat.reduceLeDiff, Nat.reduceEqDiff, Nat.reduceMod, Nat.reduceDiv, Int.reduceNeg, Int.reduceLE, Int.reduceLT, Int.reduceToNat, Int.reduceEq, Int.reduceNe, ↓reduceIte]
  refine loop_by ([4, 9, 10, 76, 77, 78, 79, 80, 81, 82, 83, 84, 85, 86, 87, 88, 89, 90, 91, 92, 93, 94, 95, 96, 97, 98, 99, 100, 101, 102, 103, 104, 105, 106, 107, 108, 109, 110, 111, 112, 113, 114, 115, 116, 117, 118, 119], [9, 10]) (fun i : Nat => [(.s 8, .int .i64 (i : Int)), (.o 9, deadV i), (.o 10, deadV i)]) (fun i => s.lists.length - i) (fun i => i ≤ s.lists.length) 0 rfl (Nat.zero_le _) rfl ?_
  rintro c' st' hst i hi ih
  set_option maxRecDepth 100000 in simp (maxSteps := 10000000) only [go_sem, Nat.reduceAdd, Nat.reduceSub, Nat.reduceMul, Nat.reduceLT, Nat.reduceLeDiff, Nat.reduceEqDiff, Nat.reduceMod, Nat.reduceDiv, Int.reduceNeg, Int.reduceLE, Int.reduceLT, Int.reduceToNat, Int.reduceEq, Int.reduceNe, ↓reduceIte]
  refine ifI (fun hlt => ?_) fun hlt => ?_
  · have hq : (List.map encAList s.lists)[i]? = some (encAList (nth s.lists i)) := at_map hlt
    set_option maxRecDepth 100000 in simp (maxSteps := 10000000) only [go_sem, Nat.reduceAdd, Nat.reduceSub, Nat.reduceMul, Nat.reduceLT, Nat.reduceLeDiff, Nat.reduceEqDiff, Nat.reduceMod, Nat.reduceDiv, Int.reduceNeg, Int.reduceLE, Int.reduceLT, Int.reduceToNat, Int.reduceEq, Int.reduceNe, ↓reduceIte,  hlt, hq, Option.map_some, eq_self, not_true_eq_false, decide_false]
    refine ⟨by decide +kernel, ?_⟩
    refine call_of (sameGrants_same _ (hs.lgrants _ (nth_mem hlt))) ?_
    set_option maxRecDepth 100000 in simp (maxSteps := 10000000) only [go_sem, Nat.reduceAdd, Nat.reduceSub, Nat.reduceMul, Nat.reduceLT, Nat.reduceLeDiff, Nat.reduceEqDiff, Nat.reduceMod, Nat.reduceDiv, Int.reduceNeg, Int.reduceLE, Int.reduceLT, Int.reduceToNat, Int.reduceEq, Int.reduceNe, ↓reduceIte,  Bool.not_true]
    refine ih (i + 1) _ (by omega) (by omega) ?_
    set_option maxRecDepth 100000 in simp (maxSteps := 10000000) only [go_sem, Nat.reduceAdd, Nat.reduceSub, Nat.reduceMul, Nat.reduceLT, Nat.reduceLeDiff, Nat.reduceEqDiff, Nat.reduceMod, Nat.reduceDiv, Int.reduceNeg, Int.reduceLE, Int.reduceLT, Int.reduceToNat, Int.reduceEq, Int.reduceNe, ↓reduceIte,  wrap_succ (show i < 9223372036854775807 by have := hs.lists; omega)]
  subst hst
  clear ih hi hlt
  set_option maxRecDepth 100000 in simp (maxSteps := 10000000) only [go_sem, Nat.reduceAdd, Nat.reduceSub, Nat.reduceMul, Nat.reduceLT, Nat.reduceLeDiff, Nat.reduceEqDiff, Nat.reduceMod, Nat.reduceDiv, Int.reduceNeg, Int.reduceLE, Int.reduceLT, Int.reduceToNat, Int.reduceEq, Int.reduceNe, ↓reduceIte]
  refine loop_by ([4, 12, 13, 120, 121, 122, 123, 124, 125, 126, 127, 128, 129, 130, 131, 132, 133, 134, 135, 136, 137, 138, 139, 140, 141, 142, 143, 144, 145, 146, 147, 148, 149, 150, 151, 152, 153, 154, 155, 156, 157, 158, 159, 160, 161, 162, 163, 164, 165, 166, 167, 168, 169, 170, 171, 172, 173, 174, 175, 176, 177], [12, 13]) (fun i : Nat => [(.s 11, .int .i64 (i : Int)), (.o 12, deadV i), (.o 13, deadV i)]) (fun i => s.objects.length - i) (fun i => i ≤ s.objects.length) 0 rfl (Nat.zero_le _) rfl ?_
  rintro c' st' hst i hi ih
  set_option maxRecDepth 100000 in simp (maxSteps := 10000000) only [go_sem, Nat.reduceAdd, Nat.reduceSub, Nat.reduceMul, Nat.reduceLT, Nat.reduceLeDiff, Nat.reduceEqDiff, Nat.reduceMod, Nat.reduceDiv, Int.reduceNeg, Int.reduceLE, Int.reduceLT, Int.reduceToNat, Int.reduceEq, Int.reduceNe, ↓reduceIte]
  refine ifI (fun hlt => ?_) fun hlt => ?_
  · have hq : (List.map encSecured s.objects)[i]? = some (encSecured (nth s.objects i)) := at_map hlt
    set_option maxRecDepth 100000 in simp (maxSteps := 10000000) only [go_sem, Nat.reduceAdd, Nat.reduceSub, Nat.reduceMul, Nat.reduceLT, Nat.reduceLeDiff, Nat.reduceEqDiff, Nat.reduceMod, Nat.reduceDiv, Int.reduceNeg, Int.reduceLE, Int.reduceLT, Int.reduceToNat, Int.reduceEq, Int.reduceNe, ↓reduceIte,  hlt, hq, Option.map_some, eq_self, not_true_eq_false, decide_false, beq_self_eq_true, Bool.not_true]
    refine ⟨by decide +kernel, ?_⟩
    refine call_of (sameGrants_same _ (hs.ogrants _ (nth_mem hlt))) ?_
    set_option maxRecDepth 100000 in simp (maxSteps := 10000000) only [go_sem, Nat.reduceAdd, Nat.reduceSub, Nat.reduceMul, Nat.reduceLT, Nat.reduceLeDiff, Nat.reduceEqDiff, Nat.reduceMod, Nat.reduceDiv, Int.reduceNeg, Int.reduceLE, Int.reduceLT, Int.reduceToNat, Int.reduceEq, Int.reduceNe, ↓reduceIte,  Bool.not_true]
    refine ih (i + 1) _ (by omega) (by omega) ?_
    set_option maxRecDepth 100000 in simp (maxSteps := 10000000) only [go_sem, Nat.reduceAdd, Nat.reduceSub, Nat.reduceMul, Nat.reduceLT, Nat.reduceLeDiff, Nat.reduceEqDiff, Nat.reduceMod, Nat.reduceDiv, Int.reduceNeg, Int.reduceLE, Int.reduceLT, Int.reduceToNat, Int.reduceEq, Int.reduceNe, ↓reduceIte,  wrap_succ (show i < 9223372036854775807 by have := hs.objects; omega)]
  subst hst
  set_option maxRecDepth 100000 in simp (maxSteps := 10000000) only [go_sem, Nat.reduceAdd, Nat.reduceSub, Nat.reduceMul, Nat.reduceLT, Nat.reduceLeDiff, Nat.reduceEqDiff, Nat.reduceMod, Nat.reduceDiv, Int.reduceNeg, Int.reduceLE, Int.reduceLT, Int.reduceToNat, Int.reduceEq, Int.reduceNe, ↓reduceIte]
end Go.Proofs.Ytdmcmfdmnlckdaa.C10
/- Chapter 10: granting and revoking. -/
namespace Go.Proofs.Ytdmcmfdmnlckdaa.C10
open Go Go.Proofs Go.Proofs.Ytdmcmfdmnlckdaa.Ab
set_option linter.unusedSimpArgs false
set_option linter.unusedSectionVars false
set_option linter.unusedVariables false
attribute [local congr] ite_ctx

def fullG (s : Sec) (g : GReq) : Prop := ¬ 0 ≤ grantIx (nth s.objects g.object.toNat).grants g.user ∧ (nth s.objects g.object.toNat).grants.length = 8
theorem ch_facts {s : Sec} {b : ByteArray} {g : GReq} (hs : Fit s) (h : chE s b g = 0) : Sound s ∧ (secE s).2 = 0 ∧ userE s b = 0 ∧ 0 ≤ profIx s g.user ∧ (0 ≤ g.object ∧ g.object < (s.objects.length : Int) ∧ g.object.toNat < s.objects.length) ∧ inB g.auth 0 1023 = true := by
  have h0 : chE0 s b g = 0 := by
    rw [chE] at h; split at h
    · rename_i q; exact absurd h q
    · rename_i q; exact Classical.not_not.1 q
  have z := chE0_zero h0
  exact ⟨sound_of hs z.1, z.1, z.2.1, userE_zero z.2.2.1, ixE_zero z.2.2.2.1, z.2.2.2.2⟩

set_option maxHeartbeats 4000000 in
theorem GrantTo_err (s : Sec) (b : ByteArray) (g : GReq) (hs : Fit s) (h : ¬ chE s b g = 0) : Ans Try.prog 50 [.agg (encSec s), .str b, .agg (encGReq g)] (.tup [.agg [.nils, .nils, .nils], .int .i64 (chE s b g)]) := by
  refine good_run [] mixed Try.func50 rfl Try.ntmps50 (rs := [.cell 6 26, .tmp 7]) rfl (by decide +kernel) (by kernel_rfl) rfl ?_
  rw [startE_eq 39 _ _ _ rfl rfl]
  set_option maxRecDepth 100000 in simp (maxSteps := 10000000) only [go_sem, Nat.reduceAdd, Nat.reduceSub, Nat.reduceMul, Nat.reduceLT, Nat.reduceLeDiff, Nat.reduceEqDiff, Nat.reduceMod, Nat.reduceDiv, Int.reduceNeg, Int.reduceLE, Int.reduceLT, Int.reduceToNat, Int.reduceEq, Int.reduceNe, ↓reduceIte]
  refine call_of (changeErr_good s b g hs) ?_
  set_option maxRecDepth 100000 in simp (maxSteps := 10000000) only [go_sem, Nat.reduceAdd, Nat.reduceSub, Nat.reduceMul, Nat.reduceLT, Nat.reduceLeDiff, Nat.reduceEqDiff, Nat.reduceMod, Nat.reduceDiv, Int.reduceNeg, Int.reduceLE, Int.reduceLT, Int.reduceToNat, Int.reduceEq, Int.reduceNe, ↓reduceIte,  h, not_false_eq_true, decide_true]

set_option maxHeartbeats 4000000 in
theorem GrantTo_full (s : Sec) (b : ByteArray) (g : GReq) (hs : Fit s) (h : chE s b g = 0) (hf : fullG s g) : Ans Try.prog 50 [.agg (encSec s), .str b, .agg (encGReq g)] (.tup [.agg [.nils, .nils, .nils], .int .i64 30]) := by
  obtain ⟨hS, z0, zb, zu, ⟨i1, i2, i3⟩, za⟩ := ch_facts hs h
  have hq : (List.map encSecured s.objects)[g.object.toNat]? = some (encSecured (nth s.objects g.object.toNat)) := at_map i3
  have hgg := grant_good (nth s.objects g.object.toNat).grants g.user (hs.ogrants _ (nth_mem i3))
  have hg1 : findIx (fun p : Grant => decide (p.user = g.user)) (nth s.objects g.object.toNat).grants 0 < 0 := Int.not_le.1 hf.1
  refine good_run [] mixed Try.func50 rfl Try.ntmps50 (rs := [.cell 6 26, .tmp 7]) rfl (by decide +kernel) (by kernel_rfl) rfl ?_
  rw [startE_eq 39 _ _ _ rfl rfl]
  set_option maxRecDepth 100000 in simp (maxSteps := 10000000) only [go_sem, Nat.reduceAdd, Nat.reduceSub, Nat.reduceMul, Nat.reduceLT, Nat.reduceLeDiff, Nat.reduceEqDiff, Nat.reduceMod, Nat.reduceDiv, Int.reduceNeg, Int.reduceLE, Int.reduceLT, Int.reduceToNat, Int.reduceEq, Int.reduceNe, ↓reduceIte]
  refine call_of (changeErr_good s b g hs) ?_
  set_option maxRecDepth 100000 in simp (maxSteps := 10000000) only [go_sem, Nat.reduceAdd, Nat.reduceSub, Nat.reduceMul, Nat.reduceLT, Nat.reduceLeDiff, Nat.reduceEqDiff, Nat.reduceMod, Nat.reduceDiv, Int.reduceNeg, Int.reduceLE, Int.reduceLT, Int.reduceToNat, Int.reduceEq, Int.reduceNe, ↓reduceIte,  h, not_true_eq_false, decide_false, i1, i2, i3, hq, Option.map_some]
  refine call_of (hgg) ?_
  set_option maxRecDepth 100000 in simp (maxSteps := 10000000) only [go_sem, Nat.reduceAdd, Nat.reduceSub, Nat.reduceMul, Nat.reduceLT, Nat.reduceLeDiff, Nat.reduceEqDiff, Nat.reduceMod, Nat.reduceDiv, Int.reduceNeg, Int.reduceLE, Int.reduceLT, Int.reduceToNat, Int.reduceEq, Int.reduceNe, ↓reduceIte,  hg1, decide_true, hf.2]

set_option maxHeartbeats 4000000 in
theorem GrantTo_ok (s : Sec) (b : ByteArray) (g : GReq) (hs : Fit s) (h : chE s b g = 0) (hf : ¬ fullG s g) : Ans Try.prog 50 [.agg (encSec s), .str b, .agg (encGReq g)] (.tup [.agg (encSec (addS s g.object.toNat g.user g.auth)), .int .i64 0]) := by
  obtain ⟨hS, z0, zb, zu, ⟨i1, i2, i3⟩, za⟩ := ch_facts hs h
  have hq : (List.map encSecured s.objects)[g.object.toNat]? = some (encSecured (nth s.objects g.object.toNat)) := at_map i3
  have hgg := grant_good (nth s.objects g.object.toNat).grants g.user (hs.ogrants _ (nth_mem i3))
  have hso := sortedG_of (hS.pgrants _ (nth_mem i3))
  have hgr := granted_good s g hs i1 i2 i3 (Nat.le_trans hso.2 (by decide)) hso.1
  refine Classical.byCases (fun hg1 : findIx (fun p : Grant => decide (p.user = g.user)) (nth s.objects g.object.toNat).grants 0 < 0 => ?_) fun hg1 => ?_
  · have h8 : ¬ (nth s.objects g.object.toNat).grants.length = 8 := fun e => hf ⟨Int.not_le.2 hg1, e⟩
    have h8i : ¬ ((nth s.objects g.object.toNat).grants.length : Int) = 8 := by omega
    refine good_run [] mixed Try.func50 rfl Try.ntmps50 (rs := [.cell 6 26, .tmp 7]) rfl (by decide +kernel) (by kernel_rfl) rfl ?_
    rw [startE_eq 39 _ _ _ rfl rfl]
    set_option maxRecDepth 100000 in simp (maxSteps := 10000000) only [go_sem, Nat.reduceAdd, Nat.reduceSub, Nat.reduceMul, Nat.reduceLT, Nat.reduceLeDiff, Nat.reduceEqDiff, Nat.reduceMod, Nat.reduceDiv, Int.reduceNeg, Int.reduceLE, Int.reduceLT, Int.reduceToNat, Int.reduceEq, Int.reduceNe, ↓reduceIte]
    refine call_of (changeErr_good s b g hs) ?_
    set_option maxRecDepth 100000 in simp (maxSteps := 10000000) only [go_sem, Nat.reduceAdd, Nat.reduceSub, Nat.reduceMul, Nat.reduceLT, Nat.reduceLeDiff, Nat.reduceEqDiff, Nat.reduceMod, Nat.reduceDiv, Int.reduceNeg, Int.reduceLE, Int.reduceLT, Int.reduceToNat, Int.reduceEq, Int.reduceNe, ↓reduceIte,  h, not_true_eq_false, decide_false, i1, i2, i3, hq, Option.map_some]
    refine call_of (hgg) ?_
    set_option maxRecDepth 100000 in simp (maxSteps := 10000000) only [go_sem, Nat.reduceAdd, Nat.reduceSub, Nat.reduceMul, Nat.reduceLT, Nat.reduceLeDiff, Nat.reduceEqDiff, Nat.reduceMod, Nat.reduceDiv, Int.reduceNeg, Int.reduceLE, Int.reduceLT, Int.reduceToNat, Int.reduceEq, Int.reduceNe, ↓reduceIte,  hg1, decide_true, h8, h8i, decide_false]
    refine call_of (hgr) ?_
    set_option maxRecDepth 100000 in simp (maxSteps := 10000000) only [go_sem, Nat.reduceAdd, Nat.reduceSub, Nat.reduceMul, Nat.reduceLT, Nat.reduceLeDiff, Nat.reduceEqDiff, Nat.reduceMod, Nat.reduceDiv, Int.reduceNeg, Int.reduceLE, Int.reduceLT, Int.reduceToNat, Int.reduceEq, Int.reduceNe, ↓reduceIte]
  refine good_run [] mixed Try.func50 rfl Try.ntmps50 (rs := [.cell 6 26, .tmp 7]) rfl (by decide +kernel) (by kernel_rfl) rfl ?_
  rw [startE_eq 39 _ _ _ rfl rfl]
  set_option maxRecDepth 100000 in simp (maxSteps := 10000000) only [go_sem, Nat.reduceAdd, Nat.reduceSub, Nat.reduceMul, Nat.reduceLT, Nat.reduceLeDiff, Nat.reduceEqDiff, Nat.reduceMod, Nat.reduceDiv, Int.reduceNeg, Int.reduceLE, Int.reduceLT, Int.reduceToNat, Int.reduceEq, Int.reduceNe, ↓reduceIte]
  refine call_of (changeErr_good s b g hs) ?_
  set_option maxRecDepth 100000 in simp (maxSteps := 10000000) only [go_sem, Nat.reduceAdd, Nat.reduceSub, Nat.reduceMul, Nat.reduceLT, Nat.reduceLeDiff, Nat.reduceEqDiff, Nat.reduceMod, Nat.reduceDiv, Int.reduceNeg, Int.reduceLE, Int.reduceLT, Int.reduceToNat, Int.reduceEq, Int.reduceNe, ↓reduceIte,  h, not_true_eq_false, decide_false, i1, i2, i3, hq, Option.map_some]
  refine call_of (hgg) ?_
  set_option maxRecDepth 100000 in simp (maxSteps := 10000000) only [go_sem, Nat.reduceAdd, Nat.reduceSub, Nat.reduceMul, Nat.reduceLT, Nat.reduceLeDiff, Nat.reduceEqDiff, Nat.reduceMod, Nat.reduceDiv, Int.reduceNeg, Int.reduceLE, Int.reduceLT, Int.reduceToNat, Int.reduceEq, Int.reduceNe, ↓reduceIte,  hg1, decide_false]
  refine call_of (hgr) ?_
  set_option maxRecDepth 100000 in simp (maxSteps := 10000000) only [go_sem, Nat.reduceAdd, Nat.reduceSub, Nat.reduceMul, Nat.reduceLT, Nat.reduceLeDiff, Nat.reduceEqDiff, Nat.reduceMod, Nat.reduceDiv, Int.reduceNeg, Int.reduceLE, Int.reduceLT, Int.reduceToNat, Int.reduceEq, Int.reduceNe, ↓reduceIte]
end Go.Proofs.Ytdmcmfdmnlckdaa.C10
