/- From a contract to a law's row. -/
import Derived.Test.YtbhgehhmjpipiaaGreatAb16
namespace Go.Proofs.YtbhgehhmjpipiaaGreat.Ab
set_option linter.unusedSimpArgs false
set_option linter.unusedVariables false
open Go Go.RowKit Go.ChangeShapes Go.WideShapes
set_option linter.unusedSectionVars false
variable [Inhabited DW]

/-- An argument of a type reads as data of a Lean type. -/
def Arg (P : Program) (t : TypeId) {α : Type} (en : α → AV) (ok : α → Prop) : Prop :=
  ∀ {H : Type} (ec : TypeId × Value → H) (w : World) (base : Nat) (v : Value) (d : DataW H) (ps : List MemPlace), Value.okWide P w .any base t v → DataW.Trod ec P w 0 (fun _ => true) true t v d ps → ∃ a, ok a ∧ ArgRel w (en a) v

def Args (P : Program) (ts : List TypeId) {α : Type} (en : α → List AV) (ok : α → Prop) : Prop :=
  ∀ {H : Type} (ec : TypeId × Value → H) (w : World) (base : Nat) (vs : List Value) (ds : List (DataW H)) (ps : List MemPlace), (∀ (j : Nat) t v, ts[j]? = some t → vs[j]? = some v → Value.okWide P w .any base t v) → DataW.TrodAll ec P w 0 (fun _ => true) true ts vs ds ps →
    ∃ a, ok a ∧ (en a).length = vs.length ∧ ∀ (i : Nat) (c : AV) (v : Value), (en a)[i]? = some c → vs[i]? = some v → ArgRel w c v

section
variable {P : Program}

theorem Arg.one {t : TypeId} {α : Type} {en : α → AV} {ok : α → Prop} (h : Rd P t 1 (fun a => [en a]) ok) (hu : ∀ fs, P.underlying t ≠ some (.struct fs)) (hu' : ∀ n e, P.underlying t ≠ some (.array n e)) : Arg P t en ok := by
  intro H ec w base v d ps hv hd
  have hc : v.cells = #[v] := by
    cases v <;> try rfl
    rename_i cs
    unfold Value.okWide at hv
    split at hv
    · rename_i fs h; exact absurd h (hu fs)
    · rename_i n e h; exact absurd h (hu' n e)
    · unfold Cell.okWide at hv
      split at hv <;> simp_all [Cell.ok]
  obtain ⟨a, ha, hr⟩ := h.one hc hd
  exact ⟨a, ha, hr _ rfl⟩

theorem Arg.agg {t : TypeId} {n : Nat} {fs : Array Field} {α : Type} {en : α → List AV} {ok : α → Prop} (h : Rd P t n en ok) (hu : P.underlying t = some (.struct fs)) : Arg P t (fun a => .agg (en a)) ok := by
  intro H ec w base v d ps hv hd
  obtain ⟨cs, rfl, -⟩ := okWide_struct hu hv
  exact h.agg hd

theorem Args.nil : Args P [] (fun _ : Unit => []) (fun _ => True) := by
  intro H ec w base vs ds ps hv hd
  cases vs with
  | nil => exact ⟨(), trivial, rfl, fun i c v h => by simp at h⟩
  | cons v vs => simp [DataW.TrodAll] at hd

theorem Args.cons {t : TypeId} {ts : List TypeId} {α β : Type} {en : α → AV} {ok : α → Prop} {en' : β → List AV} {ok' : β → Prop} (h : Arg P t en ok) (hs : Args P ts en' ok') : Args P (t :: ts) (fun p : α × β => en p.1 :: en' p.2) (fun p => ok p.1 ∧ ok' p.2) := by
  intro H ec w base vs ds ps hv hd
  cases vs with
  | nil => simp [DataW.TrodAll] at hd
  | cons v vs =>
    cases ds with
    | nil => simp [DataW.TrodAll] at hd
    | cons d ds =>
      obtain ⟨p, q, h1, h2, rfl⟩ := hd
      obtain ⟨a, ha, hr⟩ := h ec w base v d p (hv 0 t v rfl rfl) h1
      obtain ⟨b, hb, hl, hr'⟩ := hs ec w base vs ds q (fun j t v h1 h2 => hv (j + 1) t v (by simpa using h1) (by simpa using h2)) h2
      refine ⟨(a, b), ⟨ha, hb⟩, by simp [hl], fun i c v h1 h2 => ?_⟩
      match i with
      | 0 => simp at h1 h2; subst h1 h2; exact hr
      | i + 1 => exact hr' i c v (by simpa using h1) (by simpa using h2)

theorem trodAll_kept {H : Type} {ec : TypeId × Value → H} {w w' : World} (hl : laidOutB P = true) (hb : Below w.heap.size w w') : ∀ {ts : List TypeId} {vs : List Value} {ds : List (DataW H)} {ps : List MemPlace}, ts.all (fun t => P.readableRec t && decide (t < P.types.size)) = true → DataW.TrodAll ec P w 0 (fun _ => true) true ts vs ds ps →
    DataW.TrodAll ec P w' 0 (fun b => decide (b < w.heap.size)) true ts vs ds ps
  | [], [], [], ps, _, h => h
  | [], _ :: _, _, ps, _, h => by simp [DataW.TrodAll] at h
  | [], [], _ :: _, ps, _, h => by simp [DataW.TrodAll] at h
  | _ :: _, [], _, ps, _, h => by simp [DataW.TrodAll] at h
  | _ :: _, _ :: _, [], ps, _, h => by simp [DataW.TrodAll] at h
  | t :: ts, v :: vs, d :: ds, ps, hall, h => by
    obtain ⟨p, q, h1, h2, rfl⟩ := h
    simp only [List.all_cons, Bool.and_eq_true, decide_eq_true_eq] at hall
    refine ⟨p, q, ?_, trodAll_kept hl hb (by simpa using hall.2) h2, rfl⟩
    have hlt : ∀ x ∈ p, x.block < w.heap.size := by obtain ⟨m, hm⟩ := h1; exact DataW.trod_lt m _ _ _ hm
    exact Below.trod hl hall.1.1 hall.1.2 h1 hb hlt

theorem trodAll_length {H : Type} {ec : TypeId × Value → H} {w : World} {base : Nat} {sp : Nat → Bool} {hd : Bool} : ∀ {ts : List TypeId} {vs : List Value} {ds : List (DataW H)} {ps : List MemPlace}, DataW.TrodAll ec P w base sp hd ts vs ds ps → vs.length = ts.length ∧ ds.length = ts.length
  | [], [], [], _, _ => ⟨rfl, rfl⟩
  | [], _ :: _, _, _, h => by simp [DataW.TrodAll] at h
  | [], [], _ :: _, _, h => by simp [DataW.TrodAll] at h
  | _ :: _, [], _, _, h => by simp [DataW.TrodAll] at h
  | _ :: _, _ :: _, [], _, h => by simp [DataW.TrodAll] at h
  | t :: ts, v :: vs, d :: ds, ps, h => by
    obtain ⟨p, q, -, h2, -⟩ := h
    have := trodAll_length h2
    simp [this]

/-- A LAW: its contract says true for all that may be read. -/
theorem law_calls {f : FuncId} {fn : Func} {spec : ChangeSpec} {ts : List TypeId} {tb : TypeId} {H : Type} {ec : TypeId × Value → H} {α : Type} {en : α → List AV} {ok : α → Prop}
    (hl : laidOutB P = true) (hres : fn.resultTypes = #[tb]) (hb : P.underlying tb = some .bool) (hts : fn.params.toList = ts)
    (hread : ts.all (fun t => P.readableRec t && decide (t < P.types.size)) = true) (hvars : spec.vars = [])
    (hfn : ∀ ds : List (DataW H), ds.length = ts.length → spec.fn H ds = { results := [.lit (.bool true)], args := ds })
    (hargs : Args P ts en ok) (hgood : ∀ a, ok a → Good P f (en a) (.bool true))
    (W : World) (base : Nat) (args : Array Value) (ds gs : List (DataW H)) (before : List MemPlace)
    (hval : ∀ (j : Nat) t v, fn.params[j]? = some t → args[j]? = some v → Value.okWide P W .any base t v)
    (hW : DataW.Whole ec P fn.params.toList spec.vars false W args.toList ds gs before) :
    Calls P f args W fun e W' => ∃ v, e = .returned v ∧ spec.post ec P fn false true false false W args v W' := by
  have hW' := hW
  obtain ⟨p, q, hA, hV, rfl, hfz, hnd⟩ := hW
  rw [hvars] at hV
  obtain ⟨rfl, rfl⟩ := trodVars_none hV
  rw [hts] at hA
  obtain ⟨hlv, hld⟩ := trodAll_length hA
  obtain ⟨a, ha, hlen, hrel⟩ := hargs ec W base args.toList ds p (fun j t v h1 h2 => hval j t v (by rw [← Array.getElem?_toList, hts]; exact h1) (by simpa using h2)) hA
  obtain ⟨-, hg⟩ := hgood a ha
  refine (hg W (allG W).pr args (by simpa using hlen.symm) (fun i c v h1 h2 => hrel i c v h1 (by simpa using h2)) (fun b o h => h)).mono fun e W' ⟨v, Pr', he, hv, _, _, _, hbel⟩ => ?_
  refine ⟨v, he, ?_⟩
  cases hv
  refine ⟨ds, [], p ++ [], [], p, [], hW', ?_, ?_, ?_, hbel.frame _, fun h => by cases h⟩
  · rw [List.append_nil, hfn ds hld, hres]
    exact trodAll_mk1 (shut_bool hb _)
  · rw [List.append_nil, hfn ds hld, hts]
    exact trodAll_kept hl hbel.toBelow hread hA
  · rw [hvars, List.append_nil, hfn ds hld]
    rfl
end
end Go.Proofs.YtbhgehhmjpipiaaGreat.Ab
