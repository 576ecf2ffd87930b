/- What a caller's argument reads as: typed data, out of the reading that a statement gives. -/
import Derived.Test.YtbhgehhmjpipiaaGreatAb15
import Derived.ProofKit
import Derived.SizedLaws
import Derived.OpenShut
import Derived.ChangeOld
import Derived.ChangeArms
import Derived.Carry
namespace Go.Proofs.YtbhgehhmjpipiaaGreat.Ab
set_option linter.unusedSimpArgs false
set_option linter.unusedVariables false
open Go Go.RowKit Go.ChangeShapes Go.WideShapes
set_option linter.unusedSectionVars false
variable [Inhabited DW]

/-- Everything that stands in a heap. -/
def allG (w : World) : Gh := ⟨fun b _ => b < w.heap.size, fun _ => none, fun _ => 0⟩

/-- Values of a type read as data of a Lean type. -/
structure Rd (P : Program) (t : TypeId) (n : Nat) {α : Type} (en : α → List AV) (ok : α → Prop) : Prop where
  size : P.cellsOf t = n
  len : ∀ a, (en a).length = n
  cell : ∀ a, ∀ x ∈ en a, AV.cellP x = true
  read : ∀ {H : Type} (ec : TypeId × Value → H) (w : World) (fuel : Nat) (cs : List Value) (x : DataW H × List MemPlace), DataW.trod ec P w 0 (fun _ => true) true fuel t cs = some x →
    cs.length = n ∧ ∃ a, ok a ∧ ∀ (i : Nat) (c : AV) (v : Value), (en a)[i]? = some c → cs[i]? = some v → VRel (allG w) w c v

/-- The same of a row of fields, from an offset on. -/
structure Flds (P : Program) (off : Nat) (fs : List Field) (n : Nat) {α : Type} (en : α → List AV) (ok : α → Prop) : Prop where
  len : ∀ a, (en a).length = n
  cell : ∀ a, ∀ x ∈ en a, AV.cellP x = true
  read : ∀ {H : Type} (ec : TypeId × Value → H) (w : World) (fuel : Nat) (cs : List Value) (xs : List (DataW H × List MemPlace)), xs.length = fs.length →
    (∀ (i : Nat) (f : Field), fs[i]? = some f → DataW.trod ec P w 0 (fun _ => true) true fuel f.type ((cs.drop f.offset).take (P.cellsOf f.type)) = xs[i]?) →
    ∃ a, ok a ∧ ∀ (i : Nat) (c : AV) (v : Value), (en a)[i]? = some c → cs[off + i]? = some v → VRel (allG w) w c v

section
variable {P : Program} {t : TypeId}

theorem Rd.int {k : IntKind} (ht : P.underlying t = some (.int k)) (hs : P.cellsOf t = 1) : Rd P t 1 (fun n : Int => [.int k n]) (fun n => (Lit.int k n).wf = true) where
  size := hs
  len _ := rfl
  cell a x hx := by simp at hx; subst hx; rfl
  read ec w fuel cs x h := by
    obtain ⟨n, rfl, -, hw⟩ := DataW.trod_int ht h
    refine ⟨rfl, n, hw, fun i c v h1 h2 => ?_⟩
    match i with
    | 0 => simp at h1 h2; subst h1 h2; exact .int _ _
    | i + 1 => simp at h1

theorem Rd.bool (ht : P.underlying t = some .bool) (hs : P.cellsOf t = 1) : Rd P t 1 (fun b : Bool => [.bool b]) (fun _ => True) where
  size := hs
  len _ := rfl
  cell a x hx := by simp at hx; subst hx; rfl
  read ec w fuel cs x h := by
    obtain ⟨n, rfl, -⟩ := DataW.trod_bool ht h
    refine ⟨rfl, n, trivial, fun i c v h1 h2 => ?_⟩
    match i with
    | 0 => simp at h1 h2; subst h1 h2; exact .bool _
    | i + 1 => simp at h1

theorem Rd.str (ht : P.underlying t = some .string) (hs : P.cellsOf t = 1) : Rd P t 1 (fun b : ByteArray => [.str b]) (fun b => b.size ≤ maxLen) where
  size := hs
  len _ := rfl
  cell a x hx := by simp at hx; subst hx; rfl
  read ec w fuel cs x h := by
    obtain ⟨n, rfl, -, hw⟩ := DataW.trod_string ht h
    refine ⟨rfl, n, hw, fun i c v h1 h2 => ?_⟩
    match i with
    | 0 => simp at h1 h2; subst h1 h2; exact .str _
    | i + 1 => simp at h1

theorem choose_list {α : Type} {Q : Nat → α → Prop} : ∀ (n : Nat), (∀ i, i < n → ∃ a, Q i a) → ∃ l : List α, l.length = n ∧ ∀ i a, l[i]? = some a → Q i a
  | 0, _ => ⟨[], rfl, fun i a h => by simp at h⟩
  | n + 1, h => by
    obtain ⟨l, hl, hq⟩ := choose_list n fun i hi => h i (by omega)
    obtain ⟨a, ha⟩ := h n (by omega)
    refine ⟨l ++ [a], by simp [hl], fun i b hb => ?_⟩
    rw [List.getElem?_append] at hb
    split at hb
    · exact hq i b hb
    · rename_i hi
      have : i = n := by
        rcases Nat.lt_or_ge n i with h1 | h1
        · rw [List.getElem?_eq_none (by simp; omega)] at hb; cases hb
        · omega
      subst this
      simp [hl] at hb
      subst hb; exact ha

theorem Rd.slice {e : TypeId} {m : Nat} {α : Type} {en : α → List AV} {ok : α → Prop} (ht : P.underlying t = some (.slice e)) (hs : P.cellsOf t = 1) (hm : 0 < m) (he : Rd P e m en ok) :
    Rd P t 1 (fun l : List α => [.sl (l.map en)]) (fun l => l.length ≤ maxLen ∧ ∀ a ∈ l, ok a) where
  size := hs
  len _ := rfl
  cell a x hx := by
    simp at hx; subst hx; rfl
  read {H} ec w fuel cs x h := by
    have hnil : ∀ (A : Option Addr) (c : Nat), ∃ l : List α, (l.length ≤ maxLen ∧ ∀ a ∈ l, ok a) ∧ ∀ (i : Nat) (x : AV) (v : Value), [AV.sl (l.map en)][i]? = some x → [Value.slice A 0 c][i]? = some v → VRel (allG w) w x v := fun A c => by
      refine ⟨[], ⟨Nat.zero_le _, by simp⟩, fun i c v h1 h2 => ?_⟩
      match i with
      | 0 => simp at h1 h2; subst h1 h2; exact .sl0 _ _
      | i + 1 => simp at h1
    rcases DataW.trod_slice ht h with ⟨rfl, -⟩ | ⟨a, len, cap, elems, rest, n, -, rfl, -, -, hl, hcap, hel, hget, -, -⟩
    · exact ⟨rfl, hnil _ _⟩
    refine ⟨rfl, ?_⟩
    rcases Nat.eq_zero_or_pos len with rfl | hpos
    · exact hnil _ _
    have each : ∀ i, i < len → ∃ a' : α, ok a' ∧ ∃ cs' : List Value, cs'.length = m ∧ (∀ j, j < m → w.cell? ((a.add (i * m)).add j) = cs'[j]?) ∧ ∀ (j : Nat) (c : AV) (v : Value), (en a')[j]? = some c → cs'[j]? = some v → VRel (allG w) w c v := fun i hi => by
      have h1 := hget i hi
      rw [he.size, List.getElem?_eq_getElem (by omega), Option.bind_eq_some_iff] at h1
      obtain ⟨cs', hc, hr⟩ := h1
      obtain ⟨hlen, a', hok, hrel⟩ := he.read ec w n cs' _ hr
      refine ⟨a', hok, cs', hlen, fun j hj => ?_, hrel⟩
      rw [(World.cells?_some hc).2.2 j hj]
    have hspot : a.spot = none := by
      obtain ⟨a', -, cs', hl', hc, -⟩ := each 0 hpos
      have := hc 0 hm
      rw [List.getElem?_eq_getElem (by omega)] at this
      simp only [Nat.zero_mul, Addr.add, if_true, World.cell?] at this
      cases hsp : a.spot with
      | none => rfl
      | some _ => simp [hsp] at this; split at this <;> cases this
    obtain ⟨l, hll, hq⟩ := choose_list len each
    have hadd : ∀ i j, (a.add i).add j = ⟨a.block, a.off + i + j, none⟩ := fun i j => by
      cases a
      simp only at hspot
      subst hspot
      unfold Addr.add
      repeat' split
      all_goals simp_all
    have hin : ∀ {b o : Nat} {v : Value}, w.cell? ⟨b, o, none⟩ = some v → b < w.heap.size := fun {b o v} hc => by
      unfold World.cell? at hc
      rcases Nat.lt_or_ge b w.heap.size with h | h
      · exact h
      · rw [Array.getElem?_eq_none h] at hc; cases hc
    have hrow : ∀ (i j : Nat) (x : List AV) (c : AV), (l.map en)[i]? = some x → x[j]? = some c → ∃ v, w.cell? ⟨a.block, a.off + i * m + j, none⟩ = some v ∧ VRel (allG w) w c v := fun i j x c h1 h2 => by
      simp only [List.getElem?_map, Option.map_eq_some_iff] at h1
      obtain ⟨a', ha', rfl⟩ := h1
      obtain ⟨-, cs', hl', hc, hrel⟩ := hq i a' ha'
      have hj : j < m := by
        rcases Nat.lt_or_ge j m with h | h
        · exact h
        · rw [List.getElem?_eq_none (by rw [he.len]; exact h)] at h2; cases h2
      have hcj := hc j hj
      rw [hadd, List.getElem?_eq_getElem (by omega)] at hcj
      exact ⟨_, hcj, hrel j c _ h2 (List.getElem?_eq_getElem (by omega))⟩
    refine ⟨l, ⟨by omega, fun a' ha' => ?_⟩, fun i c v h1 h2 => ?_⟩
    · obtain ⟨i, hi⟩ := List.getElem?_of_mem ha'
      exact (hq i a' hi).1
    match i with
    | i + 1 => simp at h1
    | 0 =>
      simp at h1 h2; subst h1 h2
      have hA : a = ⟨a.block, a.off, none⟩ := by cases a; simp only at hspot; subst hspot; rfl
      rw [hA, show len = (l.map en).length by simp [hll]]
      refine .sl _ _ _ _ m (fun i j => (w.cell? ⟨a.block, a.off + i * m + j, none⟩).getD .nilFunc) (by simp; omega) (fun x hx => ?_) (fun x hx c hc => ?_) (fun i j x c h1 h2 => ?_) (fun i j x c h1 h2 => ?_) (fun i j x c h1 h2 => ?_)
      · simp only [List.mem_map] at hx; obtain ⟨a', -, rfl⟩ := hx; exact he.len a'
      · simp only [List.mem_map] at hx; obtain ⟨a', -, rfl⟩ := hx; exact he.cell a' c hc
      · obtain ⟨v, hv, -⟩ := hrow i j x c h1 h2; rw [hv]; rfl
      · obtain ⟨v, hv, -⟩ := hrow i j x c h1 h2; exact hin hv
      · obtain ⟨v, hv, hr⟩ := hrow i j x c h1 h2; rw [hv]; exact hr

theorem Rd.map {n : Nat} {α β : Type} {en : α → List AV} {ok : α → Prop} {en' : β → List AV} {ok' : β → Prop} (h : Rd P t n en ok) (g : α → β) (hen : ∀ a, en' (g a) = en a) (hsur : ∀ b, ∃ a, g a = b) (hok : ∀ a, ok a → ok' (g a)) : Rd P t n en' ok' where
  size := h.size
  len b := by obtain ⟨a, rfl⟩ := hsur b; rw [hen]; exact h.len a
  cell b := by obtain ⟨a, rfl⟩ := hsur b; rw [hen]; exact h.cell a
  read ec w fuel cs x hx := by
    obtain ⟨hl, a, ha, hr⟩ := h.read ec w fuel cs x hx
    exact ⟨hl, g a, hok a ha, by rw [hen]; exact hr⟩

theorem Flds.nil (off : Nat) : Flds P off [] 0 (fun _ : Unit => []) (fun _ => True) where
  len _ := rfl
  cell a x hx := by cases hx
  read ec w fuel cs xs hl h := ⟨(), trivial, fun i c v h1 => by simp at h1⟩

theorem Flds.cons {off m n : Nat} {f : Field} {fs : List Field} {α β : Type} {en : α → List AV} {ok : α → Prop} {en' : β → List AV} {ok' : β → Prop} (hoff : f.offset = off) (h : Rd P f.type m en ok) (hr : Flds P (off + m) fs n en' ok') :
    Flds P off (f :: fs) (m + n) (fun p : α × β => en p.1 ++ en' p.2) (fun p => ok p.1 ∧ ok' p.2) where
  len p := by simp [h.len, hr.len]
  cell p x hx := by
    simp only [List.mem_append] at hx
    rcases hx with hx | hx
    · exact h.cell _ _ hx
    · exact hr.cell _ _ hx
  read ec w fuel cs xs hl hg := by
    match xs, hl with
    | x :: xs, hl =>
      obtain ⟨hlen, a, ha, hrel⟩ := h.read ec w fuel _ x (by simpa using hg 0 f rfl)
      obtain ⟨b, hb, hrel'⟩ := hr.read ec w fuel cs xs (by simpa using hl) (fun i f' hf => by simpa using hg (i + 1) f' (by simpa using hf))
      refine ⟨(a, b), ⟨ha, hb⟩, fun i c v h1 h2 => ?_⟩
      rw [List.getElem?_append] at h1
      split at h1
      · rename_i hi
        rw [h.len] at hi
        refine hrel i c v h1 ?_
        rw [h.size, hoff, List.getElem?_take, if_pos hi, List.getElem?_drop]
        exact h2
      · rename_i hi
        rw [h.len] at hi h1
        refine hrel' (i - m) c v h1 ?_
        rw [show off + m + (i - m) = off + i by omega]
        exact h2

theorem Rd.struct {n : Nat} {fs : List Field} {α : Type} {en : α → List AV} {ok : α → Prop} (ht : P.underlying t = some (.struct fs.toArray)) (hs : P.cellsOf t = n) (h : Flds P 0 fs n en ok) : Rd P t n en ok where
  size := hs
  len := h.len
  cell := h.cell
  read ec w fuel cs x hx := by
    obtain ⟨xs, m, rfl, -, hlen, hl, hg⟩ := DataW.trod_struct ht hx
    obtain ⟨a, ha, hr⟩ := h.read ec w m cs xs (by simpa using hl) (fun i f hf => hg i f (by simpa using hf))
    exact ⟨hlen.trans hs, a, ha, fun i c v h1 h2 => hr i c v h1 (by simpa using h2)⟩

/-! ### A whole argument -/
/-- An argument reads as this. -/
def ArgRel (w : World) (a : AV) (v : Value) : Prop := VRel (allG w) w a v

theorem Rd.one {α : Type} {en : α → List AV} {ok : α → Prop} (h : Rd P t 1 en ok) {H : Type} {ec : TypeId × Value → H} {w : World} {v : Value} {d : DataW H} {ps : List MemPlace} (hv : v.cells = #[v]) (hd : DataW.Trod ec P w 0 (fun _ => true) true t v d ps) :
    ∃ a, ok a ∧ ∀ c, en a = [c] → ArgRel w c v := by
  obtain ⟨fuel, hd⟩ := hd
  obtain ⟨-, a, ha, hr⟩ := h.read ec w fuel _ _ hd
  exact ⟨a, ha, fun c hc => hr 0 c v (by rw [hc]; rfl) (by rw [hv]; rfl)⟩

theorem Rd.agg {n : Nat} {α : Type} {en : α → List AV} {ok : α → Prop} (h : Rd P t n en ok) {H : Type} {ec : TypeId × Value → H} {w : World} {vs : Array Value} {d : DataW H} {ps : List MemPlace} (hd : DataW.Trod ec P w 0 (fun _ => true) true t (.agg vs) d ps) :
    ∃ a, ok a ∧ ArgRel w (.agg (en a)) (.agg vs) := by
  obtain ⟨fuel, hd⟩ := hd
  obtain ⟨hl, a, ha, hr⟩ := h.read ec w fuel _ _ hd
  refine ⟨a, ha, .agg _ _ (by rw [h.len, ← hl]; simp [Value.cells]) fun i c v h1 h2 => hr i c v h1 (by simpa [Value.cells] using h2)⟩

end
end Go.Proofs.YtbhgehhmjpipiaaGreat.Ab
