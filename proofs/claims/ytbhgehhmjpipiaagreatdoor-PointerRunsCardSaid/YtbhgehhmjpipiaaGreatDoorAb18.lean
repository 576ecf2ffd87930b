/- What a caller's argument reads as: typed data, out of the reading that a statement gives. -/
import Derived.Test.YtbhgehhmjpipiaaGreatDoorAb15
import Derived.ProofKit
import Derived.SizedLaws
import Derived.OpenShut
import Derived.ChangeOld
import Derived.ChangeArms
import Derived.Carry
set_option linter.unusedSectionVars false
set_option linter.unusedSimpArgs false
set_option linter.unusedVariables false
namespace Go.Proofs.YtbhgehhmjpipiaaGreatDoor.Ab
open Go Go.RowKit Go.ChangeShapes Go.WideShapes
variable [Inhabited DW]
def allG (w : World) : Gh := ⟨fun b _ => b < w.heap.size, fun _ => none, fun _ => 0⟩
structure Rd (P : Program) (t : TypeId) (n : Nat) {α : Type} (en : α → List AV) (ok : α → Prop) : Prop where
 size : P.cellsOf t = n
 len : ∀ a, (en a).length = n
 cell : ∀ a, ∀ x ∈ en a, AV.cellP x = true
 read : ∀ {H : Type} (ec : TypeId × Value → H) (w : World) (fuel : Nat) (cs : List Value) (x : DataW H × List MemPlace), DataW.trod ec P w 0 (fun _ => true) true fuel t cs = some x →
  cs.length = n ∧ ∃ a, ok a ∧ ∀ (i : Nat) (c : AV) (v : Value), (en a)[i]? = some c → cs[i]? = some v → VRel (allG w) w c v
structure Flds (P : Program) (off : Nat) (fs : List Field) (n : Nat) {α : Type} (en : α → List AV) (ok : α → Prop) : Prop where
 len : ∀ a, (en a).length = n
 cell : ∀ a, ∀ x ∈ en a, AV.cellP x = true
 read : ∀ {H : Type} (ec : TypeId × Value → H) (w : World) (fuel : Nat) (cs : List Value) (xs : List (DataW H × List MemPlace)), xs.length = fs.length →
  (∀ (i : Nat) (f : Field), fs[i]? = some f → DataW.trod ec P w 0 (fun _ => true) true fuel f.type ((cs.drop f.offset).take (P.cellsOf f.type)) = xs[i]?) →
  ∃ a, ok a ∧ ∀ (i : Nat) (c : AV) (v : Value), (en a)[i]? = some c → cs[off + i]? = some v → VRel (allG w) w c v
section
variable {P : Program} {t : TypeId}
theorem Rd.int {k : IntKind} (ht : P.underlying t = some (.int k)) (hs : P.cellsOf t = 1) : Rd P t 1 (fun n : Int => [.int k n]) (fun n => (Lit.int k n).wf = true) where
 size := hs
 len _ := rfl
 cell a x hx := by simp at hx; subst hx; rfl
 read ec w fuel cs x h := by
  obtain ⟨n, rfl, -, hw⟩ := DataW.trod_int ht h
  refine ⟨rfl, n, hw, fun i c v h1 h2 => ?_⟩
  match i with
  | 0 => simp at h1 h2; subst h1 h2; exact .int _ _
  | i + 1 => simp at h1
theorem Rd.bool (ht : P.underlying t = some .bool) (hs : P.cellsOf t = 1) : Rd P t 1 (fun b : Bool => [.bool b]) (fun _ => True) where
 size := hs
 len _ := rfl
 cell a x hx := by simp at hx; subst hx; rfl
 read ec w fuel cs x h := by
  obtain ⟨n, rfl, -⟩ := DataW.trod_bool ht h
  refine ⟨rfl, n, trivial, fun i c v h1 h2 => ?_⟩
  match i with
  | 0 => simp at h1 h2; subst h1 h2; exact .bool _
  | i + 1 => simp at h1
theorem Rd.str (ht : P.underlying t = some .string) (hs : P.cellsOf t = 1) : Rd P t 1 (fun b : ByteArray => [.str b]) (fun b => b.size ≤ maxLen) where
 size := hs
 len _ := rfl
 cell a x hx := by simp at hx; subst hx; rfl
 read ec w fuel cs x h := by
  obtain ⟨n, rfl, -, hw⟩ := DataW.trod_string ht h
  refine ⟨rfl, n, hw, fun i c v h1 h2 => ?_⟩
  match i with
  | 0 => simp at h1 h2; subst h1 h2; exact .str _
  | i + 1 => simp at h1
theorem choose_list {α : Type} {Q : Nat → α → Prop} : ∀ (n : Nat), (∀ i, i < n → ∃ a, Q i a) → ∃ l : List α, l.length = n ∧ ∀ i a, l[i]? = some a → Q i a
 | 0, _ => ⟨[], rfl, fun i a h => by simp at h⟩
 | n + 1, h => by
   obtain ⟨l, hl, hq⟩ := choose_list n fun i hi => h i (by omega)
   obtain ⟨a, ha⟩ := h n (by omega)
   refine ⟨l ++ [a], by simp [hl], fun i b hb => ?_⟩
   rw [List.getElem?_append] at hb
   split at hb
   · exact hq i b hb
   · rename_i hi
     have : i = n := by
      rcases Nat.lt_or_ge n i with h1 | h1
      · rw [List.getElem?_eq_none (by simp; omega)] at hb; cases hb
      · omega
     subst this
     simp [hl] at hb
     subst hb; exact ha
theorem Rd.slice {e : TypeId} {m : Nat} {α : Type} {en : α → List AV} {ok : α → Prop} (ht : P.underlying t = some (.slice e)) (hs : P.cellsOf t = 1) (hm : 0 < m) (he : Rd P e m en ok) :
 Rd P t 1 (fun l : List α => [.sl (l.map en)]) (fun l => l.length ≤ maxLen ∧ ∀ a ∈ l, ok a) where
 size := hs
 len _ := rfl
 cell a x hx := by
  simp at hx; subst hx; rfl
 read {H} ec w fuel cs x h := by
  have hnil : ∀ (A : Option Addr) (c : Nat), ∃ l : List α, (l.length ≤ maxLen ∧ ∀ a ∈ l, ok a) ∧ ∀ (i : Nat) (x : AV) (v : Value), [AV.sl (l.map en)][i]? = some x → [Value.slice A 0 c][i]? = some v → VRel (allG w) w x v := fun A c => by
   refine ⟨[], ⟨Nat.zero_le _, by simp⟩, fun i c v h1 h2 => ?_⟩
   match i with
   | 0 => simp at h1 h2; subst h1 h2; exact .sl0 _ _
   | i + 1 => simp at h1
  rcases DataW.trod_slice ht h with ⟨rfl, -⟩ | ⟨a, len, cap, elems, rest, n, -, rfl, -, -, hl, hcap, hel, hget, -, -⟩
  · exact ⟨rfl, hnil _ _⟩
  refine ⟨rfl, ?_⟩
  rcases Nat.eq_zero_or_pos len with rfl | hpos
  · exact hnil _ _
  have each : ∀ i, i < len → ∃ a' : α, ok a' ∧ ∃ cs' : List Value, cs'.length = m ∧ (∀ j, j < m → w.cell? ((a.add (i * m)).add j) = cs'[j]?) ∧ ∀ (j : Nat) (c : AV) (v : Value), (en a')[j]? = some c → cs'[j]? = some v → VRel (allG w) w c v := fun i hi => by
   have h1 := hget i hi
   rw [he.size, List.getElem?_eq_getElem (by omega), Option.bind_eq_some_iff] at h1
   obtain ⟨cs', hc, hr⟩ := h1
   obtain ⟨hlen, a', hok, hrel⟩ := he.read ec w n cs' _ hr
   refine ⟨a', hok, cs', hlen, fun j hj => ?_, hrel⟩
   rw [(World.cells?_some hc).2.2 j hj]
  have hspot : a.spot = none := by
   obtain ⟨a', -, cs', hl', hc, -⟩ := each 0 hpos
   have := hc 0 hm
   rw [List.getElem?_eq_getElem (by omega)] at this
   simp only [Nat.zero_mul, Addr.add, if_true, World.cell?] at this
   cases hsp : a.spot with
   | none => rfl
   | some _ => simp [hsp] at this; split at this <;> cases this
  obtain ⟨l, hll, hq⟩ := choose_list len each
  have hadd : ∀ i j, (a.add i).add j = ⟨a.block, a.off + i + j, none⟩ := fun i j => by
   cases a
   simp only at hspot
   subst hspot
   unfold Addr.add
   repeat' split
   all_goals simp_all
  have hin : ∀ {b o : Nat} {v : Value}, w.cell? ⟨b, o, none⟩ = some v → b < w.heap.size := fun {b o v} hc => by
   unfold World.cell? at hc
   rcases Nat.lt_or_ge b w.heap.size with h | h
   · exact h
   · rw [Array.getElem?_eq_none h] at hc; cases hc
  have hrow : ∀ (i j : Nat) (x : List AV) (c : AV), (l.map en)[i]? = some x → x[j]? = some c → ∃ v, w.cell? ⟨a.block, a.off + i * m + j, none⟩ = some v ∧ VRel (allG w) w c v := fun i j x c h1 h2 => by
   simp only [List.getElem?_map, Option.map_eq_some_iff] at h1
   obtain ⟨a', ha', rfl⟩ := h1
   obtain ⟨-, cs', hl', hc, hrel⟩ := hq i a' ha'
   have hj : j < m := by
    rcases Nat.lt_or_ge j m with h | h
    · exact h
    · rw [List.getElem?_eq_none (by rw [he.len]; exact h)] at h2; cases h2
   have hcj := hc j hj
   rw [hadd, List.getElem?_eq_getElem (by omega)] at hcj
   exact ⟨_, hcj, hrel j c _ h2 (List.getElem?_eq_getElem (by omega))⟩
  refine ⟨l, ⟨by omega, fun a' ha' => ?_⟩, fun i c v h1 h2 => ?_⟩
  · obtain ⟨i, hi⟩ := List.getElem?_of_mem ha'
    exact (hq i a' hi).1
  match i with
  | i + 1 => simp at h1
  | 0 =>
    simp at h1 h2; subst h1 h2
    have hA : a = ⟨a.block, a.off, none⟩ := by cases a; simp only at hspot; subst hspot; rfl
    rw [hA, show len = (l.map en).length by simp [hll]]
    refine .sl _ _ _ _ m (fun i j => (w.cell? ⟨a.block, a.off + i * m + j, none⟩).getD .nilFunc) (by simp; omega) (fun x hx => ?_) (fun x hx c hc => ?_) (fun i j x c h1 h2 => ?_) (fun i j x c h1 h2 => ?_) (fun i j x c h1 h2 => ?_)
    · simp only [List.mem_map] at hx; obtain ⟨a', -, rfl⟩ := hx; exact he.len a'
    · simp only [List.mem_map] at hx; obtain ⟨a', -, rfl⟩ := hx; exact he.cell a' c hc
    · obtain ⟨v, hv, -⟩ := hrow i j x c h1 h2; rw [hv]; rfl
    · obtain ⟨v, hv, -⟩ := hrow i j x c h1 h2; exact hin hv
    · obtain ⟨v, hv, hr⟩ := hrow i j x c h1 h2; rw [hv]; exact hr
theorem Rd.map {n : Nat} {α β : Type} {en : α → List AV} {ok : α → Prop} {en' : β → List AV} {ok' : β → Prop} (h : Rd P t n en ok) (g : α → β) (hen : ∀ a, en' (g a) = en a) (hsur : ∀ b, ∃ a, g a = b) (hok : ∀ a, ok a → ok' (g a)) : Rd P t n en' ok' where
 size := h.size
 len b := by obtain ⟨a, rfl⟩ := hsur b; rw [hen]; exact h.len a
 cell b := by obtain ⟨a, rfl⟩ := hsur b; rw [hen]; exact h.cell a
 read ec w fuel cs x hx := by
  obtain ⟨hl, a, ha, hr⟩ := h.read ec w fuel cs x hx
  exact ⟨hl, g a, hok a ha, by rw [hen]; exact hr⟩
theorem Flds.nil (off : Nat) : Flds P off [] 0 (fun _ : Unit => []) (fun _ => True) where
 len _ := rfl
 cell a x hx := by cases hx
 read ec w fuel cs xs hl h := ⟨(), trivial, fun i c v h1 => by simp at h1⟩
theorem Flds.cons {off m n : Nat} {f : Field} {fs : List Field} {α β : Type} {en : α → List AV} {ok : α → Prop} {en' : β → List AV} {ok' : β → Prop} (hoff : f.offset = off) (h : Rd P f.type m en ok) (hr : Flds P (off + m) fs n en' ok') :
 Flds P off (f :: fs) (m + n) (fun p : α × β => en p.1 ++ en' p.2) (fun p => ok p.1 ∧ ok' p.2) where
 len p := by simp [h.len, hr.len]
 cell p x hx := by
  simp only [List.mem_append] at hx
  rcases hx with hx | hx
  · exact h.cell _ _ hx
  · exact hr.cell _ _ hx
 read ec w fuel cs xs hl hg := by
  match xs, hl with
  | x :: xs, hl =>
    obtain ⟨hlen, a, ha, hrel⟩ := h.read ec w fuel _ x (by simpa using hg 0 f rfl)
    obtain ⟨b, hb, hrel'⟩ := hr.read ec w fuel cs xs (by simpa using hl) (fun i f' hf => by simpa using hg (i + 1) f' (by simpa using hf))
    refine ⟨(a, b), ⟨ha, hb⟩, fun i c v h1 h2 => ?_⟩
    rw [List.getElem?_append] at h1
    split at h1
    · rename_i hi
      rw [h.len] at hi
      refine hrel i c v h1 ?_
      rw [h.size, hoff, List.getElem?_take, if_pos hi, List.getElem?_drop]
      exact h2
    · rename_i hi
      rw [h.len] at hi h1
      refine hrel' (i - m) c v h1 ?_
      rw [show off + m + (i - m) = off + i by omega]
      exact h2
theorem Rd.struct {n : Nat} {fs : List Field} {α : Type} {en : α → List AV} {ok : α → Prop} (ht : P.underlying t = some (.struct fs.toArray)) (hs : P.cellsOf t = n) (h : Flds P 0 fs n en ok) : Rd P t n en ok where
 size := hs
 len := h.len
 cell := h.cell
 read ec w fuel cs x hx := by
  obtain ⟨xs, m, rfl, -, hlen, hl, hg⟩ := DataW.trod_struct ht hx
  obtain ⟨a, ha, hr⟩ := h.read ec w m cs xs (by simpa using hl) (fun i f hf => hg i f (by simpa using hf))
  exact ⟨hlen.trans hs, a, ha, fun i c v h1 h2 => hr i c v h1 (by simpa using h2)⟩
def ArgRel (w : World) (a : AV) (v : Value) : Prop := VRel (allG w) w a v
theorem Rd.one {α : Type} {en : α → List AV} {ok : α → Prop} (h : Rd P t 1 en ok) {H : Type} {ec : TypeId × Value → H} {w : World} {v : Value} {d : DataW H} {ps : List MemPlace} (hv : v.cells = #[v]) (hd : DataW.Trod ec P w 0 (fun _ => true) true t v d ps) :
 ∃ a, ok a ∧ ∀ c, en a = [c] → ArgRel w c v := by
 obtain ⟨fuel, hd⟩ := hd
 obtain ⟨-, a, ha, hr⟩ := h.read ec w fuel _ _ hd
 exact ⟨a, ha, fun c hc => hr 0 c v (by rw [hc]; rfl) (by rw [hv]; rfl)⟩
theorem Rd.agg {n : Nat} {α : Type} {en : α → List AV} {ok : α → Prop} (h : Rd P t n en ok) {H : Type} {ec : TypeId × Value → H} {w : World} {vs : Array Value} {d : DataW H} {ps : List MemPlace} (hd : DataW.Trod ec P w 0 (fun _ => true) true t (.agg vs) d ps) :
 ∃ a, ok a ∧ ArgRel w (.agg (en a)) (.agg vs) := by
 obtain ⟨fuel, hd⟩ := hd
 obtain ⟨hl, a, ha, hr⟩ := h.read ec w fuel _ _ hd
 refine ⟨a, ha, .agg _ _ (by rw [h.len, ← hl]; simp [Value.cells]) fun i c v h1 h2 => hr i c v h1 (by simpa [Value.cells] using h2)⟩
end
end Go.Proofs.YtbhgehhmjpipiaaGreatDoor.Ab
namespace Go.Proofs.YtbhgehhmjpipiaaGreatDoor.Ab
open Go Go.RowKit Go.ChangeShapes Go.WideShapes
variable [Inhabited DW]
def Arg (P : Program) (t : TypeId) {α : Type} (en : α → AV) (ok : α → Prop) : Prop :=
 ∀ {H : Type} (ec : TypeId × Value → H) (w : World) (base : Nat) (v : Value) (d : DataW H) (ps : List MemPlace), Value.okWide P w .any base t v → DataW.Trod ec P w 0 (fun _ => true) true t v d ps → ∃ a, ok a ∧ ArgRel w (en a) v
def Args (P : Program) (ts : List TypeId) {α : Type} (en : α → List AV) (ok : α → Prop) : Prop :=
 ∀ {H : Type} (ec : TypeId × Value → H) (w : World) (base : Nat) (vs : List Value) (ds : List (DataW H)) (ps : List MemPlace), (∀ (j : Nat) t v, ts[j]? = some t → vs[j]? = some v → Value.okWide P w .any base t v) → DataW.TrodAll ec P w 0 (fun _ => true) true ts vs ds ps →
  ∃ a, ok a ∧ (en a).length = vs.length ∧ ∀ (i : Nat) (c : AV) (v : Value), (en a)[i]? = some c → vs[i]? = some v → ArgRel w c v
section
variable {P : Program}
theorem Arg.one {t : TypeId} {α : Type} {en : α → AV} {ok : α → Prop} (h : Rd P t 1 (fun a => [en a]) ok) (hu : ∀ fs, P.underlying t ≠ some (.struct fs)) (hu' : ∀ n e, P.underlying t ≠ some (.array n e)) : Arg P t en ok := by
 intro H ec w base v d ps hv hd
 have hc : v.cells = #[v] := by
  cases v <;> try rfl
  rename_i cs
  unfold Value.okWide at hv
  split at hv
  · rename_i fs h; exact absurd h (hu fs)
  · rename_i n e h; exact absurd h (hu' n e)
  · unfold Cell.okWide at hv
    split at hv <;> simp_all [Cell.ok]
 obtain ⟨a, ha, hr⟩ := h.one hc hd
 exact ⟨a, ha, hr _ rfl⟩
theorem Arg.agg {t : TypeId} {n : Nat} {fs : Array Field} {α : Type} {en : α → List AV} {ok : α → Prop} (h : Rd P t n en ok) (hu : P.underlying t = some (.struct fs)) : Arg P t (fun a => .agg (en a)) ok := by
 intro H ec w base v d ps hv hd
 obtain ⟨cs, rfl, -⟩ := okWide_struct hu hv
 exact h.agg hd
theorem Args.nil : Args P [] (fun _ : Unit => []) (fun _ => True) := by
 intro H ec w base vs ds ps hv hd
 cases vs with
 | nil => exact ⟨(), trivial, rfl, fun i c v h => by simp at h⟩
 | cons v vs => simp [DataW.TrodAll] at hd
theorem Args.cons {t : TypeId} {ts : List TypeId} {α β : Type} {en : α → AV} {ok : α → Prop} {en' : β → List AV} {ok' : β → Prop} (h : Arg P t en ok) (hs : Args P ts en' ok') : Args P (t :: ts) (fun p : α × β => en p.1 :: en' p.2) (fun p => ok p.1 ∧ ok' p.2) := by
 intro H ec w base vs ds ps hv hd
 cases vs with
 | nil => simp [DataW.TrodAll] at hd
 | cons v vs =>
   cases ds with
   | nil => simp [DataW.TrodAll] at hd
   | cons d ds =>
     obtain ⟨p, q, h1, h2, rfl⟩ := hd
     obtain ⟨a, ha, hr⟩ := h ec w base v d p (hv 0 t v rfl rfl) h1
     obtain ⟨b, hb, hl, hr'⟩ := hs ec w base vs ds q (fun j t v h1 h2 => hv (j + 1) t v (by simpa using h1) (by simpa using h2)) h2
     refine ⟨(a, b), ⟨ha, hb⟩, by simp [hl], fun i c v h1 h2 => ?_⟩
     match i with
     | 0 => simp at h1 h2; subst h1 h2; exact hr
     | i + 1 => exact hr' i c v (by simpa using h1) (by simpa using h2)
theorem trodAll_kept {H : Type} {ec : TypeId × Value → H} {w w' : World} (hl : laidOutB P = true) (hb : Below w.heap.size w w') : ∀ {ts : List TypeId} {vs : List Value} {ds : List (DataW H)} {ps : List MemPlace}, ts.all (fun t => P.readableRec t && decide (t < P.types.size)) = true → DataW.TrodAll ec P w 0 (fun _ => true) true ts vs ds ps →
 DataW.TrodAll ec P w' 0 (fun b => decide (b < w.heap.size)) true ts vs ds ps
 | [], [], [], ps, _, h => h
 | [], _ :: _, _, ps, _, h => by simp [DataW.TrodAll] at h
 | [], [], _ :: _, ps, _, h => by simp [DataW.TrodAll] at h
 | _ :: _, [], _, ps, _, h => by simp [DataW.TrodAll] at h
 | _ :: _, _ :: _, [], ps, _, h => by simp [DataW.TrodAll] at h
 | t :: ts, v :: vs, d :: ds, ps, hall, h => by
   obtain ⟨p, q, h1, h2, rfl⟩ := h
   simp only [List.all_cons, Bool.and_eq_true, decide_eq_true_eq] at hall
   refine ⟨p, q, ?_, trodAll_kept hl hb (by simpa using hall.2) h2, rfl⟩
   have hlt : ∀ x ∈ p, x.block < w.heap.size := by obtain ⟨m, hm⟩ := h1; exact DataW.trod_lt m _ _ _ hm
   exact Below.trod hl hall.1.1 hall.1.2 h1 hb hlt
theorem trodAll_length {H : Type} {ec : TypeId × Value → H} {w : World} {base : Nat} {sp : Nat → Bool} {hd : Bool} : ∀ {ts : List TypeId} {vs : List Value} {ds : List (DataW H)} {ps : List MemPlace}, DataW.TrodAll ec P w base sp hd ts vs ds ps → vs.length = ts.length ∧ ds.length = ts.length
 | [], [], [], _, _ => ⟨rfl, rfl⟩
 | [], _ :: _, _, _, h => by simp [DataW.TrodAll] at h
 | [], [], _ :: _, _, h => by simp [DataW.TrodAll] at h
 | _ :: _, [], _, _, h => by simp [DataW.TrodAll] at h
 | _ :: _, _ :: _, [], _, h => by simp [DataW.TrodAll] at h
 | t :: ts, v :: vs, d :: ds, ps, h => by
   obtain ⟨p, q, -, h2, -⟩ := h
   have := trodAll_length h2
   simp [this]
theorem law_calls {f : FuncId} {fn : Func} {spec : ChangeSpec} {ts : List TypeId} {tb : TypeId} {H : Type} {ec : TypeId × Value → H} {α : Type} {en : α → List AV} {ok : α → Prop}
 (hl : laidOutB P = true) (hres : fn.resultTypes = #[tb]) (hb : P.underlying tb = some .bool) (hts : fn.params.toList = ts)
 (hread : ts.all (fun t => P.readableRec t && decide (t < P.types.size)) = true) (hvars : spec.vars = [])
 (hfn : ∀ ds : List (DataW H), ds.length = ts.length → spec.fn H ds = { results := [.lit (.bool true)], args := ds })
 (hargs : Args P ts en ok) (hgood : ∀ a, ok a → Good P f (en a) (.bool true))
 (W : World) (hgl : Gl (allG W).pr W) (base : Nat) (args : Array Value) (ds gs : List (DataW H)) (before : List MemPlace)
 (hval : ∀ (j : Nat) t v, fn.params[j]? = some t → args[j]? = some v → Value.okWide P W .any base t v)
 (hW : DataW.Whole ec P fn.params.toList spec.vars false W args.toList ds gs before) :
 Calls P f args W fun e W' => ∃ v, e = .returned v ∧ spec.post ec P fn false true false false W args v W' := by
 have hW' := hW
 obtain ⟨p, q, hA, hV, rfl, hfz, hnd⟩ := hW
 rw [hvars] at hV
 obtain ⟨rfl, rfl⟩ := trodVars_none hV
 rw [hts] at hA
 obtain ⟨hlv, hld⟩ := trodAll_length hA
 obtain ⟨a, ha, hlen, hrel⟩ := hargs ec W base args.toList ds p (fun j t v h1 h2 => hval j t v (by rw [← Array.getElem?_toList, hts]; exact h1) (by simpa using h2)) hA
 obtain ⟨-, hg⟩ := hgood a ha
 refine (hg W (allG W).pr args (by simpa using hlen.symm) (fun i c v h1 h2 => hrel i c v h1 (by simpa using h2)) (fun b o h => h) hgl).mono fun e W' ⟨v, Pr', he, hv, _, _, _, hbel⟩ => ?_
 refine ⟨v, he, ?_⟩
 cases hv
 refine ⟨ds, [], p ++ [], [], p, [], hW', ?_, ?_, ?_, hbel.frame _, fun h => by cases h⟩
 · rw [List.append_nil, hfn ds hld, hres]
   exact trodAll_mk1 (shut_bool hb _)
 · rw [List.append_nil, hfn ds hld, hts]
   exact trodAll_kept hl hbel.toBelow hread hA
 · rw [hvars, List.append_nil, hfn ds hld]
   rfl
end
end Go.Proofs.YtbhgehhmjpipiaaGreatDoor.Ab
namespace Go.Proofs.YtbhgehhmjpipiaaGreatDoor.Ab
open Go Go.RowKit
variable [Inhabited DW]
theorem optArr_none {α : Type} : (none : Option α).toArray.toList = [] := rfl
theorem optArr_some {α : Type} (x : α) : (some x).toArray.toList = [x] := rfl
theorem toNat_zero' : Int.toNat 0 = 0 := rfl
theorem toNat_one' : Int.toNat 1 = 1 := rfl
theorem take_map' {α β : Type} {f : α → β} {l : List α} {n : Nat} : (l.map f).take n = (l.take n).map f := List.map_take.symm
theorem drop_map' {α β : Type} {f : α → β} {l : List α} {n : Nat} : (l.map f).drop n = (l.drop n).map f := List.map_drop.symm
theorem append_map' {α β : Type} {f : α → β} {l m : List α} : l.map f ++ m.map f = (l ++ m).map f := List.map_append.symm
theorem cast_zero' : ((0 : Nat) : Int) = 0 := rfl
theorem cast_one' : ((1 : Nat) : Int) = 1 := rfl
attribute [go_sem] Int.cast_ofNat_Int cast_zero' cast_one' optArr_none optArr_some toNat_zero' toNat_one' Int.ofNat_le take_map' drop_map' append_map'
theorem Ans.le {P : Program} {f : FuncId} {args : List AV} {r r' : AV} (h : Ans P f args r) (hr : AVle r r') (hp : r'.pureR = true) : Ans P f args r' := by
 refine ⟨h.1, hp, fun w Pr vs h1 h2 h3 hgl => (h.2.2 w Pr vs h1 h2 h3 hgl).mono fun e w' ⟨v, Pr', k1, k2, k3⟩ => ⟨v, Pr', k1, k2.le hr, k3⟩⟩
theorem Ans.args {P : Program} {f : FuncId} {args args' : List AV} {r : AV} (h : Ans P f args' r) (ha : CellsLe args args') : Ans P f args r := by
 refine ⟨h.1, h.2.1, fun w Pr vs h1 h2 h3 hgl => h.2.2 w Pr vs (by rw [h1, ha.1]) (fun i a v k1 k2 => ?_) h3 hgl⟩
 obtain ⟨x, hx⟩ := pair_get ha.1 k1
 exact (h2 i x v hx k2).le (ha.2 i x a hx k1)
end Go.Proofs.YtbhgehhmjpipiaaGreatDoor.Ab
