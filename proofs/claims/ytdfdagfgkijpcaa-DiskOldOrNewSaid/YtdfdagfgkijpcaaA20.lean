/- Chapter 6: facts for the laws of failures. -/
import Derived.Test.YtdfdagfgkijpcaaA19
import Derived.Test.YtdfdagfgkijpcaaA16
namespace Go.Proofs.Ytdfdagfgkijpcaa.C06
open Go Go.Proofs Go.Proofs.Ytdfdagfgkijpcaa.Ab
set_option linter.unusedSimpArgs false
set_option linter.unusedVariables false
attribute [local congr] ite_ctx

theorem Okd.fit {d : Disk} (h : Okd d) : FitD d := by
  have h5 := h.n5
  have hz := h.sz10
  refine ⟨by unfold Disk.n at h5; omega, fun u hu => ?_⟩
  obtain ⟨j, hj, rfl⟩ := mem_nth hu
  have hj' : j < d.n := hj
  by_cases hs : (d.at j).state = 1
  · have : (nth d.units j).secs = [] := h.gone j hj' hs
    rw [this]; simp
  · have : (nth d.units j).secs.length = d.sz := h.len j hj' hs
    omega
theorem Okd.zero {d : Disk} (h : Okd d) : (dE d).2 = 0 := by
  have h5 : d.units.length = d.n := rfl
  have hz := h.size
  have hs : shE d.kind d.size d.units.length = 0 := by
    rw [shE, if_neg, if_neg, if_neg]
    · rcases h.kind with q | q | q
      · have := h.n0 q; rw [q, h5, this]; decide
      · have := h.n1 q; rw [q, h5, this]; decide
      · have := h.n2 q; rw [q, h5]; simp [inB, lims]; omega
    · simp [inB]; omega
    · rcases h.kind with q | q | q <;> rw [q] <;> decide
  rw [dE, if_pos hs]
  have key : ∀ (l : List DU) (i : Nat), (∀ u ∈ l, uErr d.size u = 0) → (ckGo d.size l i).2 = 0 := by
    intro l
    induction l with
    | nil => intro i _; rfl
    | cons u l ih => intro i hu; rw [ckGo, if_pos (hu u (List.mem_cons_self ..))]; exact ih _ fun v hv => hu v (List.mem_cons_of_mem _ hv)
  refine key _ _ fun u hu => ?_
  obtain ⟨j, hj, rfl⟩ := mem_nth hu
  have hj' : j < d.n := hj
  show uErr d.size (d.at j) = 0
  have hst := h.state j hj'
  refine uErr_0 (by simp only [inB, decide_eq_true_eq]; omega) ?_ fun q => ?_
  · unfold want
    split
    · rename_i q; rw [h.gone j hj' q]; rfl
    · rename_i q; rw [h.len j hj' q]; unfold Disk.sz; omega
  · obtain ⟨s, hs1, hs2⟩ := List.any_eq_true.1 q
    have := h.s16 j s hj' hs1
    rw [not16, this] at hs2
    exact absurd hs2 (by decide)
theorem Whole.okd {d : Disk} (h : Whole d) : Okd d where
  kind := h.kind
  n0 := h.n0
  n1 := h.n1
  n2 := h.n2
  size := h.size
  state := fun j hj => .inl (h.state j hj)
  len := fun j hj _ => h.len j hj
  gone := fun j hj q => by rw [h.state j hj] at q; cases q
  s16 := fun j s hj hs => by
    obtain ⟨k, hk, rfl⟩ := mem_nth hs
    exact h.s16 j k hj (by rw [← h.len j hj]; exact hk)

theorem set_n {d : Disk} {u : Nat} {v : DU} : (⟨d.kind, d.size, d.units.set u v⟩ : Disk).n = d.n := by simp [Disk.n]
theorem set_at {d : Disk} {u : Nat} {v : DU} (hu : u < d.n) (j : Nat) : (⟨d.kind, d.size, d.units.set u v⟩ : Disk).at j = if j = u then v else d.at j := by
  unfold Disk.n at hu
  simp only [Disk.at, List.getD_eq_getElem?_getD, List.getElem?_set]
  by_cases q : u = j
  · subst q; simp [hu]
  · rw [if_neg q, if_neg (Ne.symm q)]
theorem set_okd {d : Disk} (h : Okd d) {u : Nat} (hu : u < d.n) {v : DU} (hs : v.state = 1 ∧ v.secs = [] ∨ v.state = 2 ∧ v.secs.length = d.sz ∧ ∀ s ∈ v.secs, s.size = 16) : Okd ⟨d.kind, d.size, d.units.set u v⟩ where
  kind := h.kind
  n0 := fun q => by rw [set_n]; exact h.n0 q
  n1 := fun q => by rw [set_n]; exact h.n1 q
  n2 := fun q => by rw [set_n]; exact h.n2 q
  size := h.size
  state := fun j hj => by
    rw [set_n] at hj; rw [set_at hu]; split
    · rcases hs with ⟨q, _⟩ | ⟨q, _⟩
      · exact .inr (.inl q)
      · exact .inr (.inr q)
    · exact h.state j hj
  len := fun j hj q => by
    rw [set_n] at hj; rw [set_at hu] at q ⊢
    split at q
    · rename_i e; rw [if_pos e]
      rcases hs with ⟨r, _⟩ | ⟨_, r, _⟩
      · exact absurd r q
      · exact r
    · rename_i e; rw [if_neg e]; exact h.len j hj q
  gone := fun j hj q => by
    rw [set_n] at hj; rw [set_at hu] at q ⊢
    split at q
    · rename_i e; rw [if_pos e]
      rcases hs with ⟨_, r⟩ | ⟨r, _⟩
      · exact r
      · rw [r] at q; cases q
    · rename_i e; rw [if_neg e]; exact h.gone j hj q
  s16 := fun j s hj hm => by
    rw [set_n] at hj; rw [set_at hu] at hm
    split at hm
    · rcases hs with ⟨_, r⟩ | ⟨_, _, r⟩
      · rw [r] at hm; cases hm
      · exact r s hm
    · exact h.s16 j s hj hm
theorem set_sim {D : Disk} (h : Whole D) {u : Nat} (hu : u < D.n) {d : Disk} {v : DU} (hd : d = ⟨D.kind, D.size, D.units.set u v⟩) (hs : v.state = 1 ∧ v.secs = [] ∨ v.state = 2 ∧ v.secs.length = D.sz ∧ ∀ s ∈ v.secs, s.size = 16) : Sim u D d := by
  subst hd
  have hat : (⟨D.kind, D.size, D.units.set u v⟩ : Disk).at u = v := by rw [set_at hu, if_pos rfl]
  exact {
    kind := rfl
    size := rfl
    n := set_n
    lt := hu
    other := fun j hj hju => by rw [set_at hu, if_neg hju]
    state := by rw [hat]; exact hs.elim (fun q => .inl q.1) fun q => .inr q.1
    gone := fun q => by
      rw [hat] at q ⊢
      rcases hs with ⟨_, r⟩ | ⟨r, _⟩
      · exact r
      · rw [r] at q; cases q
    fresh := fun q => by
      rw [hat] at q ⊢
      rcases hs with ⟨r, _⟩ | ⟨_, r, _⟩
      · rw [r] at q; cases q
      · exact r }
theorem fail_v (d : Disk) : (⟨1, []⟩ : DU).state = 1 ∧ (⟨1, []⟩ : DU).secs = [] ∨ (⟨1, []⟩ : DU).state = 2 ∧ (⟨1, []⟩ : DU).secs.length = d.sz ∧ ∀ s ∈ (⟨1, []⟩ : DU).secs, s.size = 16 := .inl ⟨rfl, rfl⟩
theorem fresh_v (d : Disk) (z : Nat) (hz : z = d.sz) : (⟨2, List.replicate z zeroB⟩ : DU).state = 1 ∧ (⟨2, List.replicate z zeroB⟩ : DU).secs = [] ∨ (⟨2, List.replicate z zeroB⟩ : DU).state = 2 ∧ (⟨2, List.replicate z zeroB⟩ : DU).secs.length = d.sz ∧ ∀ s ∈ (⟨2, List.replicate z zeroB⟩ : DU).secs, s.size = 16 := .inr ⟨rfl, by simp [hz], fun s hs => by rw [(List.mem_replicate.1 hs).2]; exact size_zeroB⟩
theorem fresh_fail (d : Disk) (u : Nat) : freshD (failD d u) u = ⟨d.kind, d.size, d.units.set u ⟨2, List.replicate d.sz zeroB⟩⟩ := by
  simp only [freshD, failD, List.set_set]; rfl

/-! ### Sectors read -/
theorem reads_whole {D : Disk} (h : Whole D) : D.reads = some (got D D.count) := reads_all fun s _ => by rw [h.read]; rfl
theorem readsGo_congr {d D : Disk} : ∀ {l : List Nat}, (∀ s ∈ l, d.read s = D.read s) → readsGo d l = readsGo D l
  | [], _ => rfl
  | s :: l, h => by simp only [readsGo, h s (List.mem_cons_self ..), readsGo_congr fun t ht => h t (List.mem_cons_of_mem _ ht)]
theorem Sim.reads {u : Nat} {D d : Disk} (h : Sim u D d) (hR : Red D) (hk : D.kind ≠ 0) : d.reads = D.reads := by
  unfold Disk.reads
  rw [h.count]
  exact readsGo_congr fun s hs => h.read hR hk (List.mem_range.1 hs)
theorem secs_ok {d : Disk} (h0 : (dE d).2 = 0) {l : List ByteArray} (hr : d.reads = some l) (hf : FitD d) : Ans Try.prog 22 [.agg (encDisk d)] (.tup [.sl (l.map encStr), .int .i64 0]) := by
  have := SectorsOf_good d hf
  rw [secsT, if_neg (by rw [h0]; exact fun q => q rfl), hr] at this
  exact this
theorem alike_ok {d : Disk} (hO : Okd d) {l : List ByteArray} (hl : l.length ≤ 1000000) (hr : d.reads = some l) : Ans Try.prog 25 [.agg (encDisk d), .sl (l.map encStr)] (.bool true) := by
  have hs := secs_ok hO.zero hr hO.fit
  have hg := Strings_good l l hl hl
  rw [decide_eq_true rfl] at hg
  refine good_run [] mixed Try.func25 rfl Try.ntmps25 (rs := [.tmp 4]) rfl (by decide +kernel) (by kernel_rfl) rfl ?_
  rw [startE_eq 20 _ _ _ rfl rfl]
  set_option maxRecDepth 100000 in simp (maxSteps := 10000000) only [go_sem, Nat.reduceAdd, Nat.reduceSub, Nat.reduceMul, Nat.reduceLT, Nat.reduceLeDiff, Nat.reduceEqDiff, Nat.reduceMod, Nat.reduceDiv, Int.reduceNeg, Int.reduceLE, Int.reduceLT, Int.reduceToNat, Int.reduceEq, Int.reduceNe, ↓reduceIte]
  refine call_of (Own_good d hO.fit) ?_
  set_option maxRecDepth 100000 in simp (maxSteps := 10000000) only [go_sem, Nat.reduceAdd, Nat.reduceSub, Nat.reduceMul, Nat.reduceLT, Nat.reduceLeDiff, Nat.reduceEqDiff, Nat.reduceMod, Nat.reduceDiv, Int.reduceNeg, Int.reduceLE, Int.reduceLT, Int.reduceToNat, Int.reduceEq, Int.reduceNe, ↓reduceIte]
  refine call_of (hs) ?_
  set_option maxRecDepth 100000 in simp (maxSteps := 10000000) only [go_sem, Nat.reduceAdd, Nat.reduceSub, Nat.reduceMul, Nat.reduceLT, Nat.reduceLeDiff, Nat.reduceEqDiff, Nat.reduceMod, Nat.reduceDiv, Int.reduceNeg, Int.reduceLE, Int.reduceLT, Int.reduceToNat, Int.reduceEq, Int.reduceNe, ↓reduceIte]
  refine call_of (hg) ?_
  set_option maxRecDepth 100000 in simp (maxSteps := 10000000) only [go_sem, Nat.reduceAdd, Nat.reduceSub, Nat.reduceMul, Nat.reduceLT, Nat.reduceLeDiff, Nat.reduceEqDiff, Nat.reduceMod, Nat.reduceDiv, Int.reduceNeg, Int.reduceLE, Int.reduceLT, Int.reduceToNat, Int.reduceEq, Int.reduceNe, ↓reduceIte]
theorem redundant_good (d : Disk) (hf : FitD d) : Ans Try.prog 21 [.agg (encDisk d)] (.bool (decide ((redE d).2 = 0))) := by
  refine good_run [] mixed Try.func21 rfl Try.ntmps21 (rs := [.tmp 2]) rfl (by decide +kernel) (by kernel_rfl) rfl ?_
  rw [startE_eq 13 _ _ _ rfl rfl]
  set_option maxRecDepth 100000 in simp (maxSteps := 10000000) only [go_sem, Nat.reduceAdd, Nat.reduceSub, Nat.reduceMul, Nat.reduceLT, Nat.reduceLeDiff, Nat.reduceEqDiff, Nat.reduceMod, Nat.reduceDiv, Int.reduceNeg, Int.reduceLE, Int.reduceLT, Int.reduceToNat, Int.reduceEq, Int.reduceNe, ↓reduceIte]
  refine call_of (Own_good d hf) ?_
  set_option maxRecDepth 100000 in simp (maxSteps := 10000000) only [go_sem, Nat.reduceAdd, Nat.reduceSub, Nat.reduceMul, Nat.reduceLT, Nat.reduceLeDiff, Nat.reduceEqDiff, Nat.reduceMod, Nat.reduceDiv, Int.reduceNeg, Int.reduceLE, Int.reduceLT, Int.reduceToNat, Int.reduceEq, Int.reduceNe, ↓reduceIte]
  refine call_of (CheckRedundant_good d hf) ?_
  set_option maxRecDepth 100000 in simp (maxSteps := 10000000) only [go_sem, Nat.reduceAdd, Nat.reduceSub, Nat.reduceMul, Nat.reduceLT, Nat.reduceLeDiff, Nat.reduceEqDiff, Nat.reduceMod, Nat.reduceDiv, Int.reduceNeg, Int.reduceLE, Int.reduceLT, Int.reduceToNat, Int.reduceEq, Int.reduceNe, ↓reduceIte]

/-! ### Runs -/
theorem okS_of {d : Disk} (h : Okd d) {l : List SW} (hw : ∀ w ∈ l, wE d w = 0) : okS d l := fun w hw' => wE_zero h (hw w hw')
theorem wE_sim {d D : Disk} (hk : d.kind = D.kind) (hs : d.size = D.size) (hn : d.n = D.n) (w : SW) : wE d w = wE D w := by
  unfold wE cntI
  unfold Disk.n at hn
  rw [hk, hs, hn]
theorem wGo_all {d : Disk} : ∀ {l : List SW} {i : Nat}, (∀ w ∈ l, wE d w = 0) → (wGo d l i).2 = 0
  | [], _, _ => rfl
  | w :: l, i, h => by
    rw [wGo, if_pos (h w (List.mem_cons_self ..))]
    exact wGo_all fun v hv => h v (List.mem_cons_of_mem _ hv)
theorem pre_of {d : Disk} {l : List SW} (h0 : (dE d).2 = 0) (hl : l.length ≤ 40) (hw : ∀ w ∈ l, wE d w = 0) : (preE d l).2 = 0 := by
  rw [preE, if_neg (by rw [h0]; exact fun q => q rfl), if_neg (by omega)]
  exact wGo_all hw
theorem run_some {d e : Disk} {l : List SW} {y : List UW} (hf : FitD d) (hp : (preE d l).2 = 0) (hr : runW d l = some (e, y)) : Ans Try.prog 43 [.agg (encDisk d), .sl (l.map encSW)] (.tup [.agg (encDisk e), .sl (y.map encUW), .int .i64 (l.length : Int), .int .i64 0]) := by
  have hg := run_ok d hf l hp
  rw [runR_of_some hr] at hg
  exact hg
/-- What is known of a run's writes to units. -/
theorem runW_ws : ∀ (l : List SW) {d e : Disk} {y : List UW}, Okd d → okS d l → runW d l = some (e, y) → Okd e ∧ (∀ x ∈ y, okW1 d x) ∧ y.length ≤ 5 * l.length
  | [], d, e, y, h, _, hr => by
    simp only [runW, Option.some.injEq, Prod.mk.injEq] at hr
    obtain ⟨rfl, rfl⟩ := hr
    exact ⟨h, fun x hx => (by cases hx), Nat.zero_le _⟩
  | w :: l, d, e, y, h, ho, hr => by
    obtain ⟨⟨q0, q1⟩, q2⟩ := ho w (List.mem_cons_self ..)
    simp only [runW] at hr
    cases hx : d.writes w.sector.toNat w.bytes with
    | none => rw [hx] at hr; cases hr
    | some x =>
      rw [hx] at hr
      simp only at hr
      have hW := writes_ws h q1 q2 hx
      have K := keeps_made d x
      have S := made_state x d
      cases hr2 : runW (made d x) l with
      | none => rw [hr2] at hr; cases hr
      | some q =>
        obtain ⟨e', y'⟩ := q
        rw [hr2] at hr
        simp only [Option.some.injEq, Prod.mk.injEq] at hr
        obtain ⟨rfl, rfl⟩ := hr
        obtain ⟨r1, r2, r3⟩ := runW_ws l (h.made hW.s16) (fun v hv => by rw [K.count]; exact ho v (List.mem_cons_of_mem _ hv)) hr2
        refine ⟨r1, fun z hz => ?_, ?_⟩
        · rcases List.mem_append.1 hz with hz | hz
          · exact hW.ok z hz
          · obtain ⟨a1, a2, a3, a4⟩ := r2 z hz
            rw [K.n] at a2
            have hzu : z.unit.toNat < d.n := by omega
            rw [(S _ hzu).2] at a4
            exact ⟨a1, a2, a3, a4⟩
        · have := hW.len
          rw [List.length_append, List.length_cons]; omega

end Go.Proofs.Ytdfdagfgkijpcaa.C06
