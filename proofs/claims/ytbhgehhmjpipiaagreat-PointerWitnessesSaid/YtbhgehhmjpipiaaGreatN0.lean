/- What comes out of a call has different numbers. -/
import Derived.Test.YtbhgehhmjpipiaaGreatD0
namespace Go.Proofs.YtbhgehhmjpipiaaGreat.C10
open Go Go.Proofs Go.Proofs.YtbhgehhmjpipiaaGreat.Ab

theorem onodup_of {out : List (Nat × AV)} {l : List Nat} (hl : out.map Prod.fst = l) (h : l.Nodup) : ∀ (k k' : Nat) (p p' : Nat × AV), out[k]? = some p → out[k']? = some p' → p.1 = p'.1 → k = k' := by
  intro k k' p p' h1 h2 h3
  subst hl
  have a1 : (out.map Prod.fst)[k]? = some p.1 := by rw [List.getElem?_map, h1]; rfl
  have a2 : (out.map Prod.fst)[k']? = some p.1 := by rw [List.getElem?_map, h2, h3]; rfl
  obtain ⟨b1, c1⟩ := List.getElem?_eq_some_iff.1 a1
  obtain ⟨b2, c2⟩ := List.getElem?_eq_some_iff.1 a2
  exact (List.getElem_inj (h₀ := b1) (h₁ := b2) h).1 (by rw [c1, c2])
end Go.Proofs.YtbhgehhmjpipiaaGreat.C10
