/- Chapter 8: what a permitted operation finds; contents. -/
import Derived.Test.YtppjmigiogddpaaGreatC17
import Derived.Test.YtppjmigiogddpaaGreatC10b
namespace Go.Proofs.YtppjmigiogddpaaGreat.C08
open Go Go.Proofs Go.Proofs.YtppjmigiogddpaaGreat.Ab
set_option linter.unusedSimpArgs false
attribute [local congr] ite_ctx

theorem errName_type {n : OName} (h : errName n = 0) : ∃ t : Nat, t < 30 ∧ n.type = (t : Int) := by
  rw [errName] at h
  split at h
  · cases h
  · rename_i q
    have : inB n.type 0 29 = true := by simpa using q
    rw [inB, decide_eq_true_eq] at this
    exact ⟨n.type.toNat, by omega, by omega⟩

def foundE (d : Dir) (n : OName) (k : Nat) : Int := if ¬ findE d n = 0 then findE d n else if permR n.type.toNat k = false then 39 else 0
theorem foundE_ok {d : Dir} {n : OName} {k : Nat} (h : foundE d n k = 0) : findE d n = 0 ∧ permR n.type.toNat k = true := by
  rw [foundE] at h
  by_cases h1 : findE d n = 0
  · rw [if_neg (not_not_intro h1)] at h
    refine ⟨h1, ?_⟩
    by_cases h2 : permR n.type.toNat k = false
    · rw [if_pos h2] at h; cases h
    · simpa using h2
  · rw [if_pos h1] at h; exact absurd h h1
end Go.Proofs.YtppjmigiogddpaaGreat.C08
