/- Chapter 12: plain laws of what is derived. -/
import Derived.Test.YtbhgehhmjpipiaaGreatDoorP37b
set_option linter.unusedSimpArgs false
set_option linter.unusedVariables false
namespace Go.Proofs.YtbhgehhmjpipiaaGreatDoor.C12
open Go Go.Proofs
variable {C : CC}
theorem DOk.proved {l : List Der} (h : DOk C l) : ∀ n, n < l.length → Proved C (l.take n) (l.getD n default) := by
 induction h with
 | nil => intro n hn; exact absurd hn (Nat.not_lt_zero _)
 | @snoc l x h hx hn ih =>
   intro n hn'
   rw [List.length_append, List.length_singleton] at hn'
   rcases Nat.lt_or_ge n l.length with q | q
   · have e1 : (l ++ [x]).take n = l.take n := List.take_append_of_le_length (by omega)
     have e2 : (l ++ [x]).getD n default = l.getD n default := by simp [List.getD_eq_getElem?_getD, List.getElem?_append_left q]
     rw [e1, e2]; exact ih n q
   · have e : n = l.length := by omega
     subst e
     have e1 : (l ++ [x]).take l.length = l := List.take_left
     have e2 : (l ++ [x]).getD l.length default = x := by simp [List.getD_eq_getElem?_getD]
     rw [e1, e2]; exact hx
theorem getD_take {l : List Der} {n k : Nat} {y : Der} (h : (l.take n)[k]? = some y) : k < n ∧ l.getD k default = y := by
 rw [List.getElem?_take] at h
 split at h
 · rename_i q; exact ⟨q, by rw [List.getD_eq_getElem?_getD, h]; rfl⟩
 · cases h
theorem Drv.auth {x : Cap} (hA : C.Aut) (h : Drv C x) : 0 ≤ x.auth ∧ x.auth ≤ 1023 := by
 obtain ⟨_, ho, hh⟩ := h.form C hA.fit.sp
 rcases hh with ⟨_, q⟩ | ⟨_, m, hm, q⟩
 · omega
 · rw [q]; exact hA.au m _ hm (by omega)
end Go.Proofs.YtbhgehhmjpipiaaGreatDoor.C12
