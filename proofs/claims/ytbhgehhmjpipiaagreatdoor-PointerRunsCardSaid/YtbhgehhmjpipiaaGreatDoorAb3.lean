/- What may come of the call's own objects: frozen, given up, written. -/
import Derived.Test.YtbhgehhmjpipiaaGreatDoorAb2
set_option linter.unusedSectionVars false
set_option linter.unusedSimpArgs false
set_option linter.unusedVariables false
namespace Go.Proofs.YtbhgehhmjpipiaaGreatDoor.Ab
open Go Go.RowKit
variable [Inhabited DW]
section
variable {w0 : Bs} {Pr0 : Nat → Nat → Prop} {G : Gh} {e : Env} {tm : Array Value} {w : World}
theorem Inv.based (h : Inv w0 Pr0 G e tm w) {u : Nat} {g : Ob} (hgu : G.ob u = some g) (hcu : 0 < g.cap) : ∃ blk, g.base = some ⟨blk, 0, none⟩ ∧ blk < w.heap.size ∧ w0.own blk := by
 have ho := h.objs u
 revert ho
 cases e.go u <;> simp only [ObRel] <;> intro ho <;> (try (rw [hgu] at ho; simp at ho; done))
 case obj =>
  obtain ⟨_, _, _, g2, h4, _, _, _, h8⟩ := ho
  rw [hgu] at h4; cases h4
  rcases h8 with h8 | ⟨blk, cs, k1, k2, k3, _⟩
  · omega
  · exact ⟨blk, k1, (Array.getElem?_eq_some_iff.1 k3).1, k2⟩
 case iter =>
  obtain ⟨_, g2, blk, h4, _, k1, _, k2, k3, _⟩ := ho
  rw [hgu] at h4; cases h4
  exact ⟨blk, k1, (Array.getElem?_eq_some_iff.1 k3).1, k2⟩
theorem Inv.freeze (h : Inv w0 Pr0 G e tm w) {t ver : Nat} {ty : TypeId} {esz : Nat} {fz pu : Bool} {xs : List (List AV)} (ho : e.go t = .obj ver ty esz fz pu xs) (ht : t < e.o.length) :
 ∃ G', GLe G w G' w ∧ Inv w0 Pr0 G' (e.put (.o t) (.obj ver ty esz true pu xs)) tm w ∧ G'.ob = G.ob ∧ G'.cnt = G.cnt ∧
  (∀ g blk, G.ob t = some g → 0 < g.cap → g.base = some ⟨blk, 0, none⟩ → ∀ o, o < xs.length * esz → G'.pr blk o) := by
 let G' : Gh := { G with pr := fun b o => G.pr b o ∨ ∃ g, G.ob t = some g ∧ 0 < g.cap ∧ g.base = some ⟨b, 0, none⟩ ∧ o < xs.length * esz }
 have hle : GLe G w G' w := ⟨fun _ _ h => .inl h, fun _ => Nat.le_refl _, fun _ _ h => .inr h, fun _ _ _ _ h => h⟩
 refine ⟨G', hle, ?_, rfl, rfl, fun g blk hg hc hb o hlt => .inr ⟨g, hg, hc, hb, hlt⟩⟩
 exact {
  gle := h.gle.trans hle
  below := h.below
  pr0 := fun b o hp => .inl (h.pr0 b o hp)
  prB := fun b o hb hp => by
   rcases hp with hp | ⟨g, hg, hc, hbs, _⟩
   · exact h.prB b o hb hp
   · obtain ⟨blk, q1, q2, q3⟩ := h.based hg hc
     rw [hbs] at q1; cases q1; exact absurd q3 hb
  gl := h.gl
  prlt := fun b o hp => by
   rcases hp with hp | ⟨g, hg, hc, hbs, _⟩
   · exact h.prlt b o hp
   · obtain ⟨blk, q1, q2, q3⟩ := h.based hg hc
     rw [hbs] at q1; cases q1; exact q2
  len := by simp [h.len]
  slots := fun u a v h1 h2 => (h.slots u a v (by simpa [Env.put] using h1) h2).mono hle
  objs := fun u => by
   rw [Env.go_put_o]
   by_cases hu : t = u
   · subst hu
     rw [if_pos ⟨rfl, ht⟩]
     have := h.objs t
     rw [ho] at this
     obtain ⟨h1, h2, h3, g, h4, h5, h6, h7, h8⟩ := this
     refine ⟨h1, h2, h3, g, h4, h5, h6, h7, ?_⟩
     rcases h8 with h8 | ⟨blk, cs, k1, k2, k3, k4, k5, k6, k7, k8, k9⟩
     · exact .inl h8
     · refine .inr ⟨blk, cs, k1, k2, k3, k4, k5, k6, k7, fun i j x a hx ha => ?_, fun o hp => ⟨rfl, ?_⟩⟩
       · obtain ⟨v, hv, hr⟩ := k8 i j x a hx ha
         exact ⟨v, hv, hr.mono hle⟩
       · rcases hp with hp | ⟨g', hg', _, _, hlt⟩
         · exact (k9 o hp).2
         · exact hlt
   · rw [if_neg (fun q => hu q.1)]
     refine (h.objs u).mono hle rfl rfl (fun g blk hg hc hb hge => ⟨rfl, fun o _ hp => ?_⟩)
     rcases hp with hp | ⟨g', hg', hc', hbs', _⟩
     · exact hp
     · exact absurd (hb.trans hbs'.symm) (h.sep u t g g' (Ne.symm hu) hg hg' hc hc')
  sep := h.sep }
theorem Inv.kill (h : Inv w0 Pr0 G e tm w) {t ver : Nat} {ty : TypeId} {esz : Nat} {fz pu : Bool} {xs : List (List AV)} (ho : e.go t = .obj ver ty esz fz pu xs) (ht : t < e.o.length) :
 ∃ G', GLe G w G' w ∧ Inv w0 Pr0 G' (e.put (.o t) (.dead ver)) tm w ∧ (∀ u, u ≠ t → G'.ob u = G.ob u) ∧ G'.ob t = none ∧ G'.cnt = G.cnt ∧ G'.pr = G.pr := by
 have hcv : G.cnt t = ver := by have := h.objs t; rw [ho] at this; exact this.1
 let G' : Gh := { G with ob := fun u => if u = t then none else G.ob u }
 have hle : GLe G w G' w := ⟨fun _ _ h => h, fun _ => Nat.le_refl _, fun u g hg => by
  simp only [G'] at hg; split at hg
  · cases hg
  · exact .inr hg, fun _ _ _ _ h => h⟩
 refine ⟨G', hle, ?_, fun u hu => by simp [G', hu], by simp [G'], rfl, rfl⟩
 exact {
  gle := h.gle.trans hle
  below := h.below
  pr0 := h.pr0
  prB := h.prB
  gl := h.gl
  prlt := h.prlt
  len := by simp [h.len]
  slots := fun u a v h1 h2 => (h.slots u a v (by simpa [Env.put] using h1) h2).mono hle
  objs := fun u => by
   rw [Env.go_put_o]
   by_cases hu : t = u
   · subst hu
     rw [if_pos ⟨rfl, ht⟩]
     exact ⟨hcv, by simp [G']⟩
   · rw [if_neg (fun q => hu q.1)]
     exact (h.objs u).mono hle (by simp [G', Ne.symm hu]) rfl (fun g blk hg hc hb hge => ⟨rfl, fun o _ hp => hp⟩)
  sep := fun t1 t2 g1 g2 hne h1 h2 => by
   simp only [G'] at h1 h2
   split at h1
   · cases h1
   · split at h2
     · cases h2
     · exact h.sep t1 t2 g1 g2 hne h1 h2 }
theorem Inv.place (h : Inv w0 Pr0 G e tm w) (d : Nat) (hd : d < e.o.length) (ty : TypeId) (esz cap ver blk : Nat) (fz pu : Bool) (xs : List (List AV)) (arr cur : Array Value)
 (hv : G.cnt d < ver ∨ (G.ob d = some ⟨ver, some ⟨blk, 0, none⟩, xs.length, cap, esz⟩ ∧ G.cnt d = ver))
 (hB : w0.own blk) (hcur : w.heap[blk]? = some (.cells cur ty (0, 0)))
 (hun : ∀ t g, t ≠ d → G.ob t = some g → 0 < g.cap → g.base ≠ some ⟨blk, 0, none⟩)
 (hkeep : ∀ (o : Nat) (v : Value), G.pr blk o → cur[o]? = some v → arr[o]? = some v)
 (hfz : ∀ o, G.pr blk o → fz = true ∧ o < xs.length * esz)
 (hpu : pu = true → ∀ x ∈ xs, ∀ a ∈ x, AV.cellP a = true) (hs : ∀ x ∈ xs, x.length = esz) (hcap : xs.length ≤ cap) (hmx : cap ≤ maxLen) (hc0 : 0 < cap) (hsz : arr.size = cap * esz)
 (hcs : ∀ (i j : Nat) (x : List AV) (a : AV), xs[i]? = some x → x[j]? = some a → ∃ v, arr[i * esz + j]? = some v ∧ VRel G w a v) :
 ∃ G', GLe G w G' (w.setRow blk arr) ∧ Inv w0 Pr0 G' (e.put (.o d) (.obj ver ty esz fz pu xs)) tm (w.setRow blk arr) ∧
  G'.ob d = some ⟨ver, some ⟨blk, 0, none⟩, xs.length, cap, esz⟩ ∧ G'.cnt d = ver := by
 have hlt : blk < w.heap.size := (Array.getElem?_eq_some_iff.1 hcur).1
 have hnew := setRow_heap w blk cur arr ty (0, 0) hcur
 have hold : ∀ k, k ≠ blk → (w.setRow blk arr).heap[k]? = w.heap[k]? := fun k hk => setRow_other w blk k arr hk
 have hsize : (w.setRow blk arr).heap.size = w.heap.size := by simp [World.setRow]
 let G' := setOb G d (some ⟨ver, some ⟨blk, 0, none⟩, xs.length, cap, esz⟩) ver
 have hle : GLe G w G' (w.setRow blk arr) := by
  refine ⟨fun _ _ h => h, fun t => ?_, fun t g hg => ?_, fun b o v hp hc => ?_⟩
  · simp only [G', setOb]; split
    · subst_vars; rcases hv with hv | hv <;> omega
    · exact Nat.le_refl _
  · simp only [G', setOb] at hg; split at hg
    · subst_vars; cases hg
      rcases hv with hv | hv
      · exact .inl hv
      · exact .inr hv.1
    · exact .inr hg
  · by_cases hb : b = blk
    · subst hb
      rw [cell_of_row _ _ _ _ _ _ hnew]
      rw [cell_of_row _ _ _ _ _ _ hcur] at hc
      exact hkeep o v hp hc
    · rw [cell_setRow_other w blk arr ⟨b, o, none⟩ hb]; exact hc
 refine ⟨G', hle, ?_, by simp [G', setOb], by simp [G', setOb]⟩
 exact {
  gle := h.gle.trans hle
  below := h.below.step rfl rfl rfl (Nat.le_refl _) (by rw [hsize]; exact Nat.le_refl _) (fun k hk => hold k (fun q => hk (q ▸ hB)))
  pr0 := h.pr0
  prB := h.prB
  gl := h.gl
  prlt := fun b o hp => by rw [hsize]; exact h.prlt b o hp
  len := by simp [h.len]
  slots := fun t a v h1 h2 => (h.slots t a v (by simpa [Env.put] using h1) h2).mono hle
  objs := fun t => by
   rw [Env.go_put_o]
   by_cases ht : d = t
   · subst ht
     rw [if_pos ⟨rfl, hd⟩]
     refine ⟨by simp [G', setOb], hpu, hs, ⟨ver, some ⟨blk, 0, none⟩, xs.length, cap, esz⟩, by simp [G', setOb], rfl, rfl, rfl, ?_⟩
     exact .inr ⟨blk, arr, rfl, hB, hnew, hcap, hmx, hsz, hc0, fun i j x a hx ha => by
      obtain ⟨v, hv, hr⟩ := hcs i j x a hx ha
      exact ⟨v, hv, hr.mono hle⟩, hfz⟩
   · rw [if_neg (fun q => ht q.1)]
     refine (h.objs t).mono hle (by simp [G', setOb, Ne.symm ht]) (by simp [G', setOb, Ne.symm ht]) (fun g blk' hg hc hb hge => ?_)
     have hne : blk' ≠ blk := fun q => hun t g (Ne.symm ht) hg hc (by rw [hb, q])
     exact ⟨hold blk' hne, fun o _ ho => ho⟩
  sep := fun t t' g g' hne hg hg' hc hc' => by
   simp only [G', setOb] at hg hg'
   split at hg
   · split at hg'
     · subst_vars; exact absurd rfl hne
     · cases hg
       intro hq
       exact hun t' g' (by assumption) hg' hc' hq.symm
   · split at hg'
     · cases hg'
       intro hq
       exact hun t g (by assumption) hg hc hq
     · exact h.sep t t' g g' hne hg hg' hc hc' }
theorem Inv.newIter (h : Inv w0 Pr0 G e tm w) (d : Nat) (hd : d < e.o.length) (s : ByteArray) :
 ∃ G', GLe G w G' (w.iter s 0) ∧ Inv w0 Pr0 G' (e.put (.o d) (.iter (nextVer (e.go d)) s 0)) tm (w.iter s 0) ∧
  G'.ob d = some ⟨nextVer (e.go d), some ⟨w.heap.size, 0, none⟩, 0, 1, 1⟩ ∧ G'.cnt d = nextVer (e.go d) := by
 have hver := (h.objs d).cnt_next
 have hw : (w.iter s 0).heap = w.heap.push (.stringIter s 0) := rfl
 have hold : ∀ k, k < w.heap.size → (w.iter s 0).heap[k]? = w.heap[k]? := fun k hk => by rw [hw, Array.getElem?_push, if_neg (by omega)]
 have hnew : (w.iter s 0).heap[w.heap.size]? = some (.stringIter s 0) := by rw [hw]; simp
 have hcell : ∀ b o, b < w.heap.size → (w.iter s 0).cell? ⟨b, o, none⟩ = w.cell? ⟨b, o, none⟩ := fun b o hb => by simp [World.cell?, hold b hb]
 let G' := setOb G d (some ⟨nextVer (e.go d), some ⟨w.heap.size, 0, none⟩, 0, 1, 1⟩) (nextVer (e.go d))
 have hle : GLe G w G' (w.iter s 0) := by
  refine ⟨fun _ _ h => h, fun t => ?_, fun t g hg => ?_, fun b o v hp hc => by rw [hcell b o (h.prlt b o hp)]; exact hc⟩
  · simp only [G', setOb]; split
    · subst_vars; omega
    · exact Nat.le_refl _
  · simp only [G', setOb] at hg; split at hg
    · subst_vars; cases hg; exact .inl (by simp only; omega)
    · exact .inr hg
 refine ⟨G', hle, ?_, by simp [G', setOb], by simp [G', setOb]⟩
 have hB : w0.w.heap.size ≤ w.heap.size := h.below.size
 exact {
  gle := h.gle.trans hle
  below := h.below.step rfl rfl rfl (Nat.le_refl _) (by rw [hw]; simp) (fun k hk => hold k (Nat.lt_of_lt_of_le (Bs.lt_of hk) hB))
  pr0 := h.pr0
  prB := h.prB
  gl := h.gl
  prlt := fun b o hp => by have := h.prlt b o hp; rw [hw]; simp; omega
  len := by simp [h.len]
  slots := fun t a v h1 h2 => (h.slots t a v (by simpa [Env.put] using h1) h2).mono hle
  objs := fun t => by
   rw [Env.go_put_o]
   by_cases ht : d = t
   · subst ht
     rw [if_pos ⟨rfl, hd⟩]
     simp only [ObRel]
     exact ⟨by simp [G', setOb], ⟨nextVer (e.go d), some ⟨w.heap.size, 0, none⟩, 0, 1, 1⟩, w.heap.size, by simp [G', setOb], rfl, rfl, Nat.zero_lt_one, .inl hB, hnew, fun o ho => absurd (h.prlt _ _ ho) (by omega)⟩
   · rw [if_neg (fun q => ht q.1)]
     refine (h.objs t).mono hle (by simp [G', setOb, Ne.symm ht]) (by simp [G', setOb, Ne.symm ht]) (fun g blk hg hc hb hge => ?_)
     have := (h.objs t).lt hg hc hb
     exact ⟨hold blk this, fun o _ ho => ho⟩
  sep := fun t t' g g' hne hg hg' hc hc' => by
   simp only [G', setOb] at hg hg'
   split at hg
   · split at hg'
     · subst_vars; exact absurd rfl hne
     · cases hg
       obtain ⟨blk, hb, hlt, _⟩ := h.based hg' hc'
       rw [hb]; intro hq; cases hq; omega
   · split at hg'
     · cases hg'
       obtain ⟨blk, hb, hlt, _⟩ := h.based hg hc
       rw [hb]; intro hq; cases hq; omega
     · exact h.sep t t' g g' hne hg hg' hc hc' }
theorem Inv.iterStep (h : Inv w0 Pr0 G e tm w) {t ver : Nat} {s : ByteArray} {pos pos' : Nat} (ho : e.go t = .iter ver s pos) (ht : t < e.o.length) {blk : Nat} {g : Ob} (hg0 : G.ob t = some g) (hb0 : g.base = some ⟨blk, 0, none⟩) :
 Inv w0 Pr0 G (e.put (.o t) (.iter ver s pos')) tm { w with heap := w.heap.setIfInBounds blk (.stringIter s pos') } ∧ GLe G w G { w with heap := w.heap.setIfInBounds blk (.stringIter s pos') } := by
 have hob := h.objs t
 rw [ho] at hob
 obtain ⟨h1, g', blk', h4, h5, k1, k7, k2, k3, k9⟩ := hob
 rw [hg0] at h4; cases h4
 rw [hb0] at k1; cases k1
 have hlt : blk < w.heap.size := (Array.getElem?_eq_some_iff.1 k3).1
 have hold : ∀ k, k ≠ blk → ({ w with heap := w.heap.setIfInBounds blk (.stringIter s pos') } : World).heap[k]? = w.heap[k]? := fun k hk => by
  simp only [Array.getElem?_setIfInBounds]; rw [if_neg (Ne.symm hk)]
 have hnew : ({ w with heap := w.heap.setIfInBounds blk (.stringIter s pos') } : World).heap[blk]? = some (.stringIter s pos') := by
  simp only [Array.getElem?_setIfInBounds]; simp [hlt]
 have hle : GLe G w G { w with heap := w.heap.setIfInBounds blk (.stringIter s pos') } := by
  refine ⟨fun _ _ h => h, fun _ => Nat.le_refl _, fun _ _ h => .inr h, fun b o v hp hc => ?_⟩
  have hne : b ≠ blk := fun q => k9 o (q ▸ hp)
  have : ({ w with heap := w.heap.setIfInBounds blk (.stringIter s pos') } : World).cell? ⟨b, o, none⟩ = w.cell? ⟨b, o, none⟩ := by simp only [World.cell?, hold b hne]
  rw [this]; exact hc
 refine ⟨?_, hle⟩
 exact {
  gle := h.gle.trans hle
  below := h.below.step rfl rfl rfl (Nat.le_refl _) (by simp) (fun k hk => hold k (fun q => hk (q ▸ k2)))
  pr0 := h.pr0
  prB := h.prB
  gl := h.gl
  prlt := fun b o hp => by have := h.prlt b o hp; simpa using this
  len := by simp [h.len]
  slots := fun u a v q1 q2 => (h.slots u a v (by simpa [Env.put] using q1) q2).mono hle
  objs := fun u => by
   rw [Env.go_put_o]
   by_cases hu : t = u
   · subst hu
     rw [if_pos ⟨rfl, ht⟩]
     simp only [ObRel]
     exact ⟨h1, g, blk, hg0, h5, hb0, k7, k2, hnew, k9⟩
   · rw [if_neg (fun q => hu q.1)]
     refine (h.objs u).mono hle rfl rfl (fun g2 blk2 hg2 hc2 hb2 _ => ⟨hold blk2 (fun q => ?_), fun _ _ ho => ho⟩)
     exact h.sep t u g g2 hu hg0 hg2 k7 hc2 (by rw [hb0, hb2, q])
  sep := h.sep }
end
end Go.Proofs.YtbhgehhmjpipiaaGreatDoor.Ab
