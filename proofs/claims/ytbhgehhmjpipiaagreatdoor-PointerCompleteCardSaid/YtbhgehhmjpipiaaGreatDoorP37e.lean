/- Chapter 12: the plain law of what jobs hold. -/
import Derived.Test.YtbhgehhmjpipiaaGreatDoorP37b
set_option linter.unusedSimpArgs false
set_option linter.unusedVariables false
namespace Go.Proofs.YtbhgehhmjpipiaaGreatDoor.C12
open Go Go.Proofs
def putAll : List Cap → List Cap → List Cap
 | m, [] => m
 | m, x :: l => putAll (put m x) l
theorem putAll_mem : ∀ (l m : List Cap) (x : Cap), x ∈ putAll m l ↔ x ∈ m ∨ x ∈ l
 | [], m, x => by simp [putAll]
 | a :: l, m, x => by
   rw [putAll, putAll_mem l, put_mem, List.mem_cons]
   constructor
   · rintro ((h | h) | h)
     · exact .inr (.inl h)
     · exact .inl h
     · exact .inr (.inr h)
   · rintro (h | h | h)
     · exact .inl (.inr h)
     · exact .inl (.inl h)
     · exact .inr h
theorem putAll_sorted : ∀ {l m : List Cap}, Sorted m → Sorted (putAll m l)
 | [], m, h => h
 | a :: l, m, h => putAll_sorted (l := l) (put_sorted h)
theorem putAll_app : ∀ (l k m : List Cap), putAll m (l ++ k) = putAll (putAll m l) k
 | [], k, m => rfl
 | a :: l, k, m => putAll_app l k (put m a)
theorem putAll_len : ∀ (l m : List Cap), (putAll m l).length ≤ m.length + l.length
 | [], m => by simp [putAll]
 | a :: l, m => by
   have := putAll_len l (put m a)
   have h : (put m a).length ≤ m.length + 1 := by
    unfold put; split
    · omega
    · rw [putGo_len]; exact Nat.le_refl _
   simp only [putAll, List.length_cons]; omega
theorem held_same {l m : List Cap} (hp : ∀ x, x ∈ m ↔ x ∈ l) (hs : m.Pairwise fun a b => b.lt a = false) : compact m = putAll [] l := by
 refine Sorted.unique (compact_sorted hs) (putAll_sorted (by simp [Sorted])) fun x => ?_
 rw [compact_mem, hp, putAll_mem]; simp
def ptrsGo (s : Stg) : Nat → Nat → List Ptr
 | 0, _ => []
 | n + 1, k => (match s.view k with | some p => [p] | none => []) ++ ptrsGo s n (k + 1)
def ptrsL (s : Stg) : List Ptr := ptrsGo s s.tags.length 0
theorem ptrsGo_mem {s : Stg} {p : Ptr} : ∀ {n k : Nat}, p ∈ ptrsGo s n k ↔ ∃ i, k ≤ i ∧ i < k + n ∧ s.view i = some p
 | 0, k => by simp [ptrsGo]; intro i h1 h2; omega
 | n + 1, k => by
   rw [ptrsGo, List.mem_append, ptrsGo_mem]
   constructor
   · rintro (h | ⟨i, h1, h2, h3⟩)
     · cases hv : s.view k with
       | none => rw [hv] at h; cases h
       | some q => rw [hv] at h; rw [List.mem_singleton] at h; subst h; exact ⟨k, Nat.le_refl _, by omega, hv⟩
     · exact ⟨i, by omega, by omega, h3⟩
   · rintro ⟨i, h1, h2, h3⟩
     rcases Nat.lt_or_ge k i with q | q
     · exact .inr ⟨i, by omega, by omega, h3⟩
     · have : i = k := by omega
       subst this
       left; rw [h3]; simp
theorem view_lt {s : Stg} {k : Nat} {p : Ptr} (h : s.view k = some p) : k < s.tags.length := by
 unfold Stg.view Stg.tag at h
 split at h
 · rename_i q
   rcases Nat.lt_or_ge k s.tags.length with r | r
   · exact r
   · rw [List.getD_eq_getElem?_getD, List.getElem?_eq_none r] at q; cases q
 · cases h
theorem ptrsL_mem {s : Stg} {p : Ptr} : p ∈ ptrsL s ↔ ∃ k, s.view k = some p := by
 unfold ptrsL
 rw [ptrsGo_mem]
 exact ⟨fun ⟨i, _, _, h⟩ => ⟨i, h⟩, fun ⟨i, h⟩ => ⟨i, Nat.zero_le _, by rw [Nat.zero_add]; exact view_lt h, h⟩⟩
def heldGo : List Stg → Nat → List Cap
 | [], _ => []
 | x :: l, j => (ptrsL x).map (capOf j) ++ heldGo l (j + 1)
def heldL (s : St) : List Cap := heldGo s.jobs 0
theorem heldGo_mem {x : Cap} : ∀ {l : List Stg} {j : Nat}, x ∈ heldGo l j ↔ ∃ i k p, i < l.length ∧ (l.getD i default).view k = some p ∧ x = capOf (j + i) p
 | [], j => by simp [heldGo]
 | a :: l, j => by
   rw [heldGo, List.mem_append, heldGo_mem, List.mem_map]
   constructor
   · rintro (⟨p, hp, rfl⟩ | ⟨i, k, p, h1, h2, h3⟩)
     · obtain ⟨k, hk⟩ := ptrsL_mem.1 hp
       exact ⟨0, k, p, by simp, hk, rfl⟩
     · exact ⟨i + 1, k, p, by simp; omega, by simpa using h2, by rw [h3]; congr 1; omega⟩
   · rintro ⟨i, k, p, h1, h2, h3⟩
     cases i with
     | zero => exact .inl ⟨p, ptrsL_mem.2 ⟨k, h2⟩, h3.symm⟩
     | succ i => exact .inr ⟨i, k, p, by simpa using h1, by simpa using h2, by rw [h3]; congr 1; omega⟩
theorem heldL_mem {s : St} {x : Cap} : x ∈ heldL s ↔ Holds s s.jobs.length x := by
 unfold heldL Holds St.jv
 rw [heldGo_mem]
 constructor
 · rintro ⟨i, k, p, h1, h2, h3⟩; exact ⟨i, k, p, h1, h2, by rw [h3, Nat.zero_add]⟩
 · rintro ⟨i, k, p, h1, h2, h3⟩; exact ⟨i, k, p, h1, h2, by rw [h3, Nat.zero_add]⟩
def rHeld (s : St) : List Cap := putAll [] (heldL s)
theorem rHeld_mem {s : St} {x : Cap} : x ∈ rHeld s ↔ Holds s s.jobs.length x := by
 unfold rHeld
 rw [putAll_mem, heldL_mem]; simp
theorem rHeld_sorted (s : St) : Sorted (rHeld s) := putAll_sorted (by simp [Sorted])
end Go.Proofs.YtbhgehhmjpipiaaGreatDoor.C12
