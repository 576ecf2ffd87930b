/- Chapter 9: slices.Insert of one string, as a contract with own rows. -/
import Derived.Test.YtppjmigiogddpaaGreatE14
import Derived.Shelf.Spec.SlicesInsertGrow
namespace Go.Proofs.YtppjmigiogddpaaGreat.C08
open Go Go.Proofs Go.Proofs.YtppjmigiogddpaaGreat.Ab
set_option linter.unusedSimpArgs false
set_option linter.unusedVariables false

def insRen : Go.Shelf.Ren where
  f := fun x => match x with
    | 22 => 71
    | 29 => 104
    | 30 => 105
    | 36 => 134
    | 17 => 145
    | n => n
  t := fun x => match x with
    | 24 => 51
    | n => n
  g := fun n => n
theorem insL : Lays2.n22 Tryz.prog insRen where
  mixed := mixed
  f17 := Tryz.func145.trans (congrArg some (by kernel_rfl))
  f22 := Tryz.func71.trans (congrArg some (by kernel_rfl))
  f29 := Tryz.func104.trans (congrArg some (by kernel_rfl))
  f30 := Tryz.func105.trans (congrArg some (by kernel_rfl))
  f36 := Tryz.func134.trans (congrArg some (by kernel_rfl))
  t0 := Tryz.underlying0
  a0 := Tryz.isAgg0
  z0 := Tryz.sizeOf0
  v0 := Tryz.zeroValue0
  t3 := Tryz.underlying3
  a3 := Tryz.isAgg3
  z3 := Tryz.sizeOf3
  v3 := Tryz.zeroValue3
  t4 := Tryz.underlying4
  a4 := Tryz.isAgg4
  z4 := Tryz.sizeOf4
  v4 := Tryz.zeroValue4
  t9 := Tryz.underlying9
  a9 := Tryz.isAgg9
  z9 := Tryz.sizeOf9
  v9 := Tryz.zeroValue9
  t24 := Tryz.underlying51
  a24 := Tryz.isAgg51
  z24 := Tryz.sizeOf51
  v24 := Tryz.zeroValue51
  i9 := by kernel_rfl

theorem setCells_rest (b : Nat) : ∀ (vs : List Value) (o : Nat) (w : World), (∀ k, k ≠ b → (w.setCells b o vs).heap[k]? = w.heap[k]?) ∧ (w.setCells b o vs).heap.size = w.heap.size ∧
    (w.setCells b o vs).os = w.os ∧ (w.setCells b o vs).tape = w.tape ∧ (w.setCells b o vs).output = w.output ∧ (w.setCells b o vs).drawn = w.drawn
  | [], _, w => ⟨fun _ _ => rfl, rfl, rfl, rfl, rfl, rfl⟩
  | v :: r, o, w => by
    obtain ⟨h1, h2, h3, h4, h5, h6⟩ := setCells_rest b r (o + 1) (w.setCell ⟨b, o, none⟩ v)
    rw [World.setCells]
    refine ⟨fun k hk => ?_, by rw [h2]; simp [World.setCell], h3, h4, h5, h6⟩
    rw [h1 k hk, World.setCell, Array.getElem?_modify, if_neg (Ne.symm hk)]
theorem setCells_row (b : Nat) : ∀ (vs : List Value) (o : Nat) (w : World) (cs : Array Value) (ty : TypeId) (fr : Nat × Nat), w.heap[b]? = some (.cells cs ty fr) →
    ∃ cs' : Array Value, (w.setCells b o vs).heap[b]? = some (.cells cs' ty fr) ∧ cs'.size = cs.size ∧ ∀ j, j < cs.size → cs'[j]? = if o ≤ j ∧ j < o + vs.length then vs[j - o]? else cs[j]?
  | [], o, w, cs, ty, fr, h => ⟨cs, h, rfl, fun j _ => by rw [if_neg (by simp)]⟩
  | v :: r, o, w, cs, ty, fr, h => by
    obtain ⟨c2, h1, h2, h3⟩ := setCells_row b r (o + 1) (w.setCell ⟨b, o, none⟩ v) (cs.setIfInBounds o v) ty fr (by rw [World.setCell, Array.getElem?_modify, if_pos rfl, h]; rfl)
    rw [Array.size_setIfInBounds] at h2 h3
    refine ⟨c2, by rw [World.setCells]; exact h1, h2, fun j hj => ?_⟩
    rw [h3 j hj, List.length_cons, Array.getElem?_setIfInBounds]
    by_cases q : j = o
    · subst q
      rw [if_neg (by omega), if_pos rfl, if_pos hj, if_pos (by omega), Nat.sub_self]; rfl
    · by_cases q2 : o + 1 ≤ j ∧ j < o + 1 + r.length
      · rw [if_pos q2, if_pos (by omega), show j - o = (j - (o + 1)) + 1 by omega]; rfl
      · rw [if_neg q2, if_neg (fun e => q e.symm), if_neg (by omega)]

theorem alloc_at (w : World) (o : Go.Obj) : (w.drew.alloc o).heap[w.heap.size]? = some o := by
  show (w.heap.push o)[w.heap.size]? = _
  rw [Array.getElem?_push, if_pos rfl]
theorem alloc_old (w : World) (o : Go.Obj) {k : Nat} (h : k < w.heap.size) : (w.drew.alloc o).heap[k]? = w.heap[k]? := by
  show (w.heap.push o)[k]? = _
  rw [Array.getElem?_push, if_neg (by omega)]
theorem alloc_size (w : World) (o : Go.Obj) : w.heap.size ≤ (w.drew.alloc o).heap.size := by
  show _ ≤ (w.heap.push o).size
  rw [Array.size_push]; omega

def insS (l : List ByteArray) (k : Nat) (s : ByteArray) : List ByteArray := l.take k ++ s :: l.drop k
theorem insS_len {l : List ByteArray} {k : Nat} {s : ByteArray} (h : k ≤ l.length) : (insS l k s).length = l.length + 1 := by
  rw [insS, List.length_append, List.length_cons, List.length_take, List.length_drop]; omega
theorem insS_get {l : List ByteArray} {k : Nat} {s : ByteArray} (h : k ≤ l.length) (j : Nat) : (insS l k s)[j]? = if j < k then l[j]? else if j = k then some s else l[j - 1]? := by
  rw [insS, List.getElem?_append, List.length_take, Nat.min_eq_left h]
  by_cases q : j < k
  · rw [if_pos q, if_pos q, List.getElem?_take, if_pos q]
  · rw [if_neg q, if_neg q]
    by_cases q2 : j = k
    · rw [if_pos q2, q2, Nat.sub_self]; rfl
    · rw [if_neg q2, show j - k = (j - k - 1) + 1 by omega, List.getElem?_cons_succ, List.getElem?_drop, show k + (j - k - 1) = j - 1 by omega]

set_option maxHeartbeats 4000000 in
theorem InsertM (l : List ByteArray) (k : Nat) (s : ByteArray) (hk : k ≤ l.length) (hl : l.length ≤ 1000) :
    AnsM Tryz.prog 71 3 [.obj 1 9 1 false true (l.map encStr), .obj 1 9 1 false true ([s].map encStr)] [.ref 3 1, .int .i64 (k : Int), .ref 4 1] (.ref 3 2) [(3, .obj 2 9 1 false true ((insS l k s).map encStr))] := by
  refine ⟨by kernel_rfl, fun w G vs hsz hvs hprlt hobj hsep => ?_⟩
  have hO := hobj 3
  have hV := hobj 4
  obtain ⟨hcnt, hpu, hes, g, g1, g2, g3, g4, g5⟩ : ObRel G w (fun _ => True) 3 (.obj 1 9 1 false true (l.map encStr)) := hO
  obtain ⟨-, -, -, q, q1, q2, q3, q4, q5⟩ : ObRel G w (fun _ => True) 4 (.obj 1 9 1 false true ([s].map encStr)) := hV
  rw [List.length_map] at g3 q3
  have hoth : ∀ t, ¬ t = 3 → ∀ o, G.ob t = some o → t = 4 := fun t h3 o ho => by
    refine Classical.byContradiction fun h4 => ?_
    have h := hobj t
    have hg : (startM 3 [.ref 3 1, .int .i64 (k : Int), .ref 4 1] [.obj 1 9 1 false true (l.map encStr), .obj 1 9 1 false true ([s].map encStr)]).go t = .any := by
      match t, h3, h4 with
      | 0, _, _ => rfl
      | 1, _, _ => rfl
      | 2, _, _ => rfl
      | 3, h3, _ => exact absurd rfl h3
      | 4, _, h4 => exact absurd rfl h4
      | t + 5, _, _ => rfl
    rw [hg] at h
    rw [h.2] at ho; cases ho
  have hv : ∃ v0 v1 v2, vs = #[v0, v1, v2] := by
    match vs, hsz with
    | ⟨[x, y, z]⟩, _ => exact ⟨x, y, z, rfl⟩
  obtain ⟨v0, v1, v2, rfl⟩ := hv
  have r0 := hvs 0 _ _ rfl rfl
  have r1 := hvs 1 _ _ rfl rfl
  have r2 := hvs 2 _ _ rfl rfl
  cases r0 with
  | ref _ _ _ a1 a2 a3 =>
  cases r1 with
  | int _ _ =>
  cases r2 with
  | ref _ _ _ c1 c2 c3 =>
  rcases q5 with ⟨_, h5⟩ | ⟨vb, cv, y1, _, y3, y4, y5, y6, y7, y8, y9⟩
  · cases h5
  have hv2 := c3 q q1 q2
  rw [q3, y1] at hv2
  subst hv2
  have hv0 := a3 g g1 g2
  rw [g3] at hv0
  -- the variadic cell
  obtain ⟨u, hu, hur⟩ := y8 0 0 [.str s] (.str s) rfl rfl
  cases hur
  have hvs' : ∀ (j : Nat) (v : Value), [Value.string s][j]? = some v → w.cell? ⟨vb, 0 + j, none⟩ = some v := fun j v hj => by
    match j, hj with
    | 0, hj => cases hj; rw [Nat.add_zero, cell_of_row _ _ _ _ _ _ y3]; exact hu
  have h1v : ∀ v ∈ [Value.string s], v.oneCell' = true := fun v hv => by
    rw [List.mem_singleton] at hv; rw [hv]; rfl
  have h1c : ∀ v ∈ l.map Value.string, v.oneCell' = true := fun v hv => by
    obtain ⟨x, _, rfl⟩ := List.mem_map.1 hv; rfl
  have hvl : (l.map Value.string).length = l.length := List.length_map ..
  -- what comes of it
  have fin : ∀ (b' cap' : Nat) (cs2 : Array Value) (w' : World), (w.heap.size = b' ∨ (g.base = some ⟨b', 0, none⟩ ∧ 0 < g.cap ∧ b' < w.heap.size ∧ ∀ o, ¬ G.pr b' o)) →
      w'.heap[b']? = some (.cells cs2 9 (0, 0)) → (∀ k, k ≠ b' → k < w.heap.size → w'.heap[k]? = w.heap[k]?) → w.heap.size ≤ w'.heap.size → w'.os = w.os → w'.tape = w.tape → w'.output = w.output → w.drawn ≤ w'.drawn →
      l.length + 1 ≤ cap' → cap' ≤ maxLen → cs2.size = cap' → (∀ (j : Nat) (x : ByteArray), (insS l k s)[j]? = some x → cs2[j]? = some (Value.string x)) →
      ∃ v G', Ending.returned (.slice (some ⟨b', 0, none⟩) (l.length + 1) cap') = .returned v ∧ VRel G' w' (.ref 3 2) v ∧ GLe G w G' w' ∧
      (∀ b o, b < w.heap.size → ¬ blksOf G b → G'.pr b o → G.pr b o) ∧ (∀ b o, G'.pr b o → b < w'.heap.size) ∧ BelowX ⟨w, blksOf G, G⟩ w' ∧
      (∀ p ∈ [(3, AV.obj 2 9 1 false true ((insS l k s).map encStr))], ObRel G' w' (Bs.own ⟨w, blksOf G, G⟩) p.1 p.2) ∧ SepG G' := by
    intro b' cap' cs2 w' hb hrow hother hsize e1 e2 e3 e4 hcap hmax hcs hcell
    have hnopr : ∀ o, ¬ G.pr b' o := fun o hp => by
      rcases hb with hb | hb
      · have := hprlt b' o hp; omega
      · exact hb.2.2.2 o hp
    have hown : Bs.own ⟨w, blksOf G, G⟩ b' := by
      rcases hb with hb | hb
      · exact .inl (by show w.heap.size ≤ b'; omega)
      · exact .inr ⟨3, g, g1, hb.2.1, hb.1⟩
    have hvb : ¬ vb = b' := fun e => by
      rcases hb with hb | hb
      · have : vb < w.heap.size := (Array.getElem?_eq_some_iff.1 y3).1
        omega
      · exact hsep 3 4 g q (by decide) g1 q1 hb.2.1 (by omega) (by rw [hb.1, y1, e])
    refine ⟨_, ⟨G.pr, fun t => if t = 3 then some ⟨2, some ⟨b', 0, none⟩, l.length + 1, cap', 1⟩ else G.ob t, fun t => if t = 3 then 2 else G.cnt t⟩, rfl, ?_, ⟨fun _ _ h => h, fun t => ?_, fun t o ho => ?_, fun b o v hp hc => ?_⟩,
      fun b o _ _ hp => hp, fun b o hp => Nat.lt_of_lt_of_le (hprlt b o hp) hsize, ⟨e1, e2, e3, e4, hsize, fun k hk => ?_⟩, fun p hp => ?_, ?_⟩
    · refine .ref _ _ _ (by simp) rfl fun o ho _ => ?_
      simp only [if_pos] at ho
      cases ho
      rfl
    · show G.cnt t ≤ if t = 3 then 2 else G.cnt t
      split
      · rename_i h; rw [h, hcnt]; decide
      · exact Nat.le_refl _
    · have ho' : (if t = 3 then some ⟨2, some ⟨b', 0, none⟩, l.length + 1, cap', 1⟩ else G.ob t) = some o := ho
      by_cases h : t = 3
      · rw [if_pos h] at ho'; cases ho'
        exact .inl (by rw [h, hcnt]; show 1 < 2; decide)
      · rw [if_neg h] at ho'; exact .inr ho'
    · have hbb : b ≠ b' := fun e => hnopr o (e ▸ hp)
      have := hother b hbb (hprlt b o hp)
      simp only [World.cell?, this] at hc ⊢
      exact hc
    · refine hother k (fun e => hk (e ▸ hown)) (Bs.lt_of hk)
    · rw [List.mem_singleton] at hp
      subst hp
      refine ⟨by simp, fun _ x hx a ha => ?_, fun x hx => ?_, ⟨2, some ⟨b', 0, none⟩, l.length + 1, cap', 1⟩, by simp, rfl, by rw [List.length_map, insS_len hk], rfl, .inr ⟨b', cs2, rfl, hown, hrow, by rw [List.length_map, insS_len hk]; exact hcap, hmax, by rw [hcs]; show cap' = cap' * 1; omega, by show 0 < cap'; omega, fun i j x a hx ha => ?_, fun o ho => absurd ho (hnopr o)⟩⟩
      · obtain ⟨y, _, rfl⟩ := List.mem_map.1 hx
        rw [encStr, List.mem_singleton] at ha
        rw [ha]; rfl
      · obtain ⟨y, _, rfl⟩ := List.mem_map.1 hx
        rfl
      · rw [List.getElem?_map] at hx
        cases hi : (insS l k s)[i]? with
        | none => rw [hi] at hx; cases hx
        | some y =>
          rw [hi] at hx; cases hx
          have hj : j = 0 := by
            have := (List.getElem?_eq_some_iff.1 ha).1
            simp [encStr] at this; exact this
          subst hj
          cases ha
          exact ⟨_, by rw [Nat.mul_one, Nat.add_zero]; exact hcell i y hi, .str _⟩
    · have hsp : ∀ t o, ¬ t = 3 → G.ob t = some o → ¬ some ⟨b', 0, none⟩ = o.base := fun t o h3 ho e => by
        have := hoth t h3 o ho
        subst this
        rw [q1] at ho; cases ho
        rw [y1] at e
        cases e; exact hvb rfl
      intro t t' o o' hne ho ho' hc hc'
      have ho1 : (if t = 3 then some ⟨2, some ⟨b', 0, none⟩, l.length + 1, cap', 1⟩ else G.ob t) = some o := ho
      have ho2 : (if t' = 3 then some ⟨2, some ⟨b', 0, none⟩, l.length + 1, cap', 1⟩ else G.ob t') = some o' := ho'
      by_cases h : t = 3
      · rw [if_pos h] at ho1; cases ho1
        have h' : ¬ t' = 3 := fun e => hne (h.trans e.symm)
        rw [if_neg h'] at ho2
        exact hsp t' o' h' ho2
      · rw [if_neg h] at ho1
        by_cases h' : t' = 3
        · rw [if_pos h'] at ho2; cases ho2
          exact fun e => hsp t o h ho1 e.symm
        · rw [if_neg h'] at ho2
          exact hsep t t' o o' hne ho1 ho2 hc hc'
  have hmx : l.length + 1 ≤ maxLen := by unfold maxLen; omega
  have hvlt : vb < w.heap.size := (Array.getElem?_eq_some_iff.1 y3).1
  have hins : ∀ (j : Nat) (x : ByteArray), (insS l k s)[j]? = some x → j < l.length + 1 := fun j x hx => by
    have := (List.getElem?_eq_some_iff.1 hx).1
    rwa [insS_len hk] at this
  have hzs : ∀ n, (Builtin.zeroCells (Value.string ⟨#[]⟩).cells n).size = n := fun n => by simp [Builtin.zeroCells, Value.cells]
  rcases g5 with ⟨h0, h5⟩ | ⟨blk, cs, k1, _, k3, k4, k5, k6, k7, k8, k9⟩
  · -- no row at all
    have hn : l = [] := List.map_eq_nil_iff.1 h5
    subst hn
    have hk0 : k = 0 := by simpa using hk
    subst hk0
    rw [h0] at hv0
    subst hv0
    have h := Any2.slices_Insert_string_end_grow insL g.base 0 0 vb 0 1 q.cap [] [.string s] w (by decide) (Nat.le_refl _) (by decide) (by decide) rfl rfl (fun _ => rfl) (fun a _ j v hj => by simp at hj) hvs' h1v
    refine Calls.mono h fun e w' ⟨he, hw⟩ => ?_
    subst he hw
    have hge := grownCap_ge w (0 + 1) 0 9
    refine fin w.heap.size _ _ _ (.inl rfl) (alloc_at w _) (fun k hk hlt => alloc_old w _ hlt) (alloc_size w _) rfl rfl rfl (Nat.le_succ _) hge (grownCap_le_maxLen w _ _ _ (by decide)) ?_ fun j x hx => ?_
    · rw [Array.size_append, hzs]
      show 1 + (grownCap w (0 + 1) 0 9 - (0 + 1)) = grownCap w (0 + 1) 0 9
      omega
    · have hj := hins j x hx
      have : j = 0 := by simpa using hj
      subst this
      cases hx
      rw [Array.getElem?_append_left (by simp)]
      rfl
  rw [k1] at hv0
  subst hv0
  have hblk : blk < w.heap.size := (Array.getElem?_eq_some_iff.1 k3).1
  have hvb : vb ≠ blk := fun e => hsep 3 4 g q (by decide) g1 q1 k7 (by omega) (by rw [k1, y1, e])
  have hbk : w.heap.size = blk ∨ (g.base = some ⟨blk, 0, none⟩ ∧ 0 < g.cap ∧ blk < w.heap.size ∧ ∀ o, ¬ G.pr blk o) := .inr ⟨k1, k7, hblk, fun o hp => absurd (k9 o hp).1 (by decide)⟩
  rw [List.length_map] at k4
  rw [Nat.mul_one] at k6
  have hcsj : ∀ (j : Nat) (x : ByteArray), l[j]? = some x → cs[j]? = some (.string x) := fun j x hx => by
    obtain ⟨u, hu, hr⟩ := k8 j 0 (encStr x) (.str x) (by rw [List.getElem?_map, hx]; rfl) rfl
    cases hr
    rwa [Nat.mul_one, Nat.add_zero] at hu
  have hcs : ∀ (j : Nat) (v : Value), (l.map Value.string)[j]? = some v → w.cell? ⟨blk, 0 + j, none⟩ = some v := fun j v hj => by
    rw [List.getElem?_map] at hj
    cases hx : l[j]? with
    | none => rw [hx] at hj; cases hj
    | some x =>
      rw [hx] at hj; cases hj
      rw [Nat.zero_add, cell_of_row _ _ _ _ _ _ k3]; exact hcsj j x hx
  have hc63 : g.cap ≤ 9223372036854775807 := by unfold maxLen at k5; omega
  have hsp : ∀ j, j < g.cap → (w.cell? ⟨blk, 0 + j, none⟩).isSome = true := fun j hj => by
    rw [Nat.zero_add, cell_of_row _ _ _ _ _ _ k3, Array.getElem?_eq_getElem (by omega)]; rfl
  have hfz : ∀ j, w.frozen? ⟨blk, j, none⟩ = false := fun j => frozen_of_row w blk _ cs 9 k3
  by_cases hr : l.length + 1 ≤ g.cap
  · by_cases hkl : k = l.length
    · subst hkl
      have h := Any2.slices_Insert_string_end_room insL blk 0 l.length g.cap vb 0 1 q.cap [.string s] w (by decide) hr hc63 rfl (fun j hj => by rw [Nat.add_assoc]; exact hsp (l.length + j) (by omega)) (fun j hj => hfz _) hvs' h1v
      refine Calls.mono h fun e w' ⟨he, hw⟩ => ?_
      subst he hw
      obtain ⟨c1, d1, d2, d3⟩ := setCells_row blk [.string s] (0 + l.length) w cs 9 (0, 0) k3
      obtain ⟨m1, m2, m3, m4, m5, m6⟩ := setCells_rest blk [.string s] (0 + l.length) w
      refine fin blk g.cap c1 _ hbk d1 (fun k hk _ => m1 k hk) (Nat.le_of_eq m2.symm) m3 m4 m5 (Nat.le_of_eq m6.symm) hr k5 (by rw [d2, k6]) fun j x hx => ?_
      have hj := hins j x hx
      rw [d3 j (by omega)]
      rw [insS_get (Nat.le_refl _)] at hx
      by_cases e1 : j < l.length
      · rw [if_pos e1] at hx
        rw [if_neg (by omega)]; exact hcsj j x hx
      · have e2 : j = l.length := by omega
        subst e2
        rw [if_neg (by omega), if_pos rfl] at hx
        cases hx
        rw [if_pos ⟨by omega, by show _ < 0 + l.length + 1; omega⟩, show l.length - (0 + l.length) = 0 by omega]; rfl
    · have h := Any2.slices_Insert_string_shift insL blk 0 l.length g.cap k vb 0 1 q.cap (l.map Value.string) [.string s] w (by omega) (by decide) hr hc63 hvb hvl rfl hcs (fun j hj => hsp j (by omega)) (fun j _ => hfz _) hvs' h1c h1v
        9 9 cv.size cs.size (by simp [World.shape?, y3]) (by simp [World.shape?, k3]) (by omega) (frozen_of_row w vb _ cv 9 y3) (frozen_of_row w vb _ cv 9 y3)
      refine Calls.mono h fun e w' ⟨he, hw⟩ => ?_
      subst he hw
      obtain ⟨c1, d1, d2, d3⟩ := setCells_row blk ((l.map Value.string).drop k) (0 + (k + 1)) w.drew cs 9 (0, 0) k3
      obtain ⟨m1, m2, m3, m4, m5, m6⟩ := setCells_rest blk ((l.map Value.string).drop k) (0 + (k + 1)) w.drew
      obtain ⟨c2, f1, f2, f3⟩ := setCells_row blk [.string s] (0 + k) _ c1 9 (0, 0) d1
      obtain ⟨n1, n2, n3, n4, n5, n6⟩ := setCells_rest blk [.string s] (0 + k) (w.drew.setCells blk (0 + (k + 1)) ((l.map Value.string).drop k))
      refine fin blk g.cap c2 _ hbk f1 (fun k hk _ => (n1 k hk).trans (m1 k hk)) (Nat.le_of_eq (n2.trans m2).symm) (n3.trans m3) (n4.trans m4) (n5.trans m5) (by rw [n6, m6]; exact Nat.le_succ _) hr k5 (by rw [f2, d2, k6]) fun j x hx => ?_
      have hj := hins j x hx
      rw [f3 j (by omega)]
      rw [insS_get hk] at hx
      by_cases e1 : j < k
      · rw [if_pos e1] at hx
        rw [if_neg (by omega), d3 j (by omega), if_neg (by omega)]; exact hcsj j x hx
      · rw [if_neg e1] at hx
        by_cases e2 : j = k
        · subst e2
          rw [if_pos rfl] at hx
          cases hx
          rw [if_pos ⟨by omega, by show _ < 0 + j + 1; omega⟩, show j - (0 + j) = 0 by omega]; rfl
        · rw [if_neg e2] at hx
          rw [if_neg (by show ¬ (_ ∧ _ < 0 + k + 1); omega), d3 j (by omega), if_pos ⟨by omega, by rw [List.length_drop, hvl]; omega⟩, List.getElem?_drop, show k + (j - (0 + (k + 1))) = j - 1 by omega, List.getElem?_map, hx]; rfl
  · by_cases hkl : k = l.length
    · subst hkl
      have h := Any2.slices_Insert_string_end_grow insL (some ⟨blk, 0, none⟩) l.length g.cap vb 0 1 q.cap (l.map Value.string) [.string s] w (by decide) k4 (by omega) (by omega) hvl rfl (fun h => by cases h) (fun a ha j v hj => by
        cases ha
        rw [Addr.add_lit]; exact hcs j v hj) hvs' h1v
      refine Calls.mono h fun e w' ⟨he, hw⟩ => ?_
      subst he hw
      have hge := grownCap_ge w (l.length + 1) g.cap 9
      refine fin w.heap.size _ _ _ (.inl rfl) (alloc_at w _) (fun k hk hlt => alloc_old w _ hlt) (alloc_size w _) rfl rfl rfl (Nat.le_succ _) hge (grownCap_le_maxLen w _ _ _ hmx) ?_ fun j x hx => ?_
      · rw [Array.size_append, hzs]
        show (l.map Value.string ++ [Value.string s]).length + (grownCap w (l.length + 1) g.cap 9 - (l.length + 1)) = grownCap w (l.length + 1) g.cap 9
        rw [List.length_append, hvl, List.length_singleton]
        omega
      · have hj := hins j x hx
        rw [insS_get (Nat.le_refl _)] at hx
        rw [Array.getElem?_append_left (by simp; omega), List.getElem?_toArray]
        by_cases e1 : j < l.length
        · rw [if_pos e1] at hx
          rw [List.getElem?_append_left (by rw [hvl]; exact e1), List.getElem?_map, hx]; rfl
        · have e2 : j = l.length := by omega
          subst e2
          rw [if_neg (by omega), if_pos rfl] at hx
          cases hx
          rw [List.getElem?_append_right (by rw [hvl]; exact Nat.le_refl _), hvl, Nat.sub_self]; rfl
    · have h := Any2.slices_Insert_string_grow insL blk 0 l.length g.cap k vb 0 1 q.cap (l.map Value.string) [.string s] w (by omega) (by decide) k4 (by omega) (by omega) hvl rfl hcs hvs' h1c h1v
      refine Calls.mono h fun e w' ⟨he, hw⟩ => ?_
      rw [show insRen.t 9 = 9 from rfl] at he hw
      subst he hw
      have hge := grownCap_ge w (l.length + 1) g.cap 9
      have hgm := grownCap_le_maxLen w (l.length + 1) g.cap 9 hmx
      have hro : ∀ R : Array Value, (w.alloc (.cells R 9)).drew.heap[w.heap.size]? = some (.cells R 9 (0, 0)) := fun R => alloc_at w _
      have hsz3 : (((l.map Value.string).take k).toArray ++ Builtin.zeroCells (Value.string ⟨#[]⟩).cells (l.length + 1 - k) ++ Builtin.zeroCells (Value.string ⟨#[]⟩).cells (grownCap w (l.length + 1) g.cap 9 - (l.length + 1))).size = grownCap w (l.length + 1) g.cap 9 := by
        rw [Array.size_append, Array.size_append, hzs, hzs]
        show ((l.map Value.string).take k).length + _ + _ = _
        rw [List.length_take, hvl]; omega
      have hlo : ∀ j, j < k → (((l.map Value.string).take k).toArray ++ Builtin.zeroCells (Value.string ⟨#[]⟩).cells (l.length + 1 - k) ++ Builtin.zeroCells (Value.string ⟨#[]⟩).cells (grownCap w (l.length + 1) g.cap 9 - (l.length + 1)))[j]? = (l.map Value.string)[j]? := fun j hj => by
        have hA : j < ((l.map Value.string).take k).toArray.size := by
          show j < ((l.map Value.string).take k).length
          rw [List.length_take, hvl]; omega
        rw [Array.getElem?_append_left (by rw [Array.size_append]; omega), Array.getElem?_append_left hA, List.getElem?_toArray, List.getElem?_take, if_pos hj]
      generalize (((l.map Value.string).take k).toArray ++ Builtin.zeroCells (Value.string ⟨#[]⟩).cells (l.length + 1 - k) ++ Builtin.zeroCells (Value.string ⟨#[]⟩).cells (grownCap w (l.length + 1) g.cap 9 - (l.length + 1))) = R at *
      obtain ⟨c1, d1, d2, d3⟩ := setCells_row w.heap.size [.string s] k (w.alloc (.cells R 9)).drew R 9 (0, 0) (hro R)
      obtain ⟨m1, m2, m3, m4, m5, m6⟩ := setCells_rest w.heap.size [.string s] k (w.alloc (.cells R 9)).drew
      obtain ⟨c2, f1, f2, f3⟩ := setCells_row w.heap.size ((l.map Value.string).drop k) (k + 1) (((w.alloc (.cells R 9)).drew.setCells w.heap.size k [.string s]).drew) c1 9 (0, 0) d1
      obtain ⟨n1, n2, n3, n4, n5, n6⟩ := setCells_rest w.heap.size ((l.map Value.string).drop k) (k + 1) (((w.alloc (.cells R 9)).drew.setCells w.heap.size k [.string s]).drew)
      refine fin w.heap.size _ c2 _ (.inl rfl) f1 (fun k hk hlt => (n1 k hk).trans ((m1 k hk).trans (alloc_old w _ hlt))) ?_ (n3.trans m3) (n4.trans m4) (n5.trans m5) ?_ hge hgm (by rw [f2, d2, hsz3]) fun j x hx => ?_
      · rw [n2]
        show _ ≤ ((w.alloc (.cells R 9)).drew.setCells w.heap.size k [.string s]).heap.size
        rw [m2]; exact alloc_size w _
      · rw [n6]
        show _ ≤ ((w.alloc (.cells R 9)).drew.setCells w.heap.size k [.string s]).drawn + 1
        rw [m6]
        show w.drawn ≤ w.drawn + 1 + 1
        omega
      · have hj := hins j x hx
        rw [f3 j (by omega)]
        rw [insS_get hk] at hx
        by_cases e1 : j < k
        · rw [if_pos e1] at hx
          rw [if_neg (by omega), d3 j (by omega), if_neg (by omega), hlo j e1, List.getElem?_map, hx]; rfl
        · rw [if_neg e1] at hx
          by_cases e2 : j = k
          · subst e2
            rw [if_pos rfl] at hx
            cases hx
            rw [if_neg (by omega), d3 j (by omega), if_pos ⟨Nat.le_refl _, by show _ < j + 1; omega⟩, Nat.sub_self]; rfl
          · rw [if_neg e2] at hx
            rw [if_pos ⟨by omega, by rw [List.length_drop, hvl]; omega⟩, List.getElem?_drop, show k + (j - (k + 1)) = j - 1 by omega, List.getElem?_map, hx]; rfl
end Go.Proofs.YtppjmigiogddpaaGreat.C08
