/- The abstract machine's append says what the model's does. -/
import Derived.Test.YtbhgehhmjpipiaaGreatDoorAb6
set_option linter.unusedSectionVars false
set_option linter.unusedSimpArgs false
set_option linter.unusedVariables false
namespace Go.Proofs.YtbhgehhmjpipiaaGreatDoor.Ab
open Go Go.RowKit
variable [Inhabited DW]
section
variable {P : Program} {w0 : Bs} {Pr0 : Nat → Nat → Prop} {G : Gh} {e : Env} {a : Act} {w : World}
theorem Inv.newEmpty {tm : Array Value} (h : Inv w0 Pr0 G e tm w) (d : Nat) (hd : d < e.o.length) (ty : TypeId) (esz : Nat) (pu : Bool) (A : Option Addr) :
 ∃ G', GLe G w G' w ∧ Inv w0 Pr0 G' (e.put (.o d) (.obj (nextVer (e.go d)) ty esz false pu [])) tm w ∧
  G'.ob d = some ⟨nextVer (e.go d), A, 0, 0, esz⟩ ∧ G'.cnt d = nextVer (e.go d) := by
 have hver := (h.objs d).cnt_next
 let G' := setOb G d (some ⟨nextVer (e.go d), A, 0, 0, esz⟩) (nextVer (e.go d))
 have hle : GLe G w G' w := by
  refine ⟨fun _ _ h => h, fun t => ?_, fun t g hg => ?_, fun b o v hp hc => hc⟩
  · simp only [G', setOb]; split
    · subst_vars; omega
    · exact Nat.le_refl _
  · simp only [G', setOb] at hg; split at hg
    · subst_vars; cases hg; exact .inl (by simp only; omega)
    · exact .inr hg
 refine ⟨G', hle, ?_, by simp [G', setOb], by simp [G', setOb]⟩
 exact {
  gle := h.gle.trans hle
  below := h.below
  pr0 := h.pr0
  prB := h.prB
  gl := h.gl
  prlt := h.prlt
  len := by simp [h.len]
  slots := fun t a v h1 h2 => (h.slots t a v (by simpa [Env.put] using h1) h2).mono hle
  objs := fun t => by
   rw [Env.go_put_o]
   by_cases ht : d = t
   · subst ht
     rw [if_pos ⟨rfl, hd⟩]
     exact ⟨by simp [G', setOb], by simp, by simp, ⟨nextVer (e.go d), A, 0, 0, esz⟩, by simp [G', setOb], rfl, rfl, rfl, .inl ⟨rfl, rfl⟩⟩
   · rw [if_neg (fun q => ht q.1)]
     exact (h.objs t).mono hle (by simp [G', setOb, Ne.symm ht]) (by simp [G', setOb, Ne.symm ht]) (fun g blk hg hc hb hge => ⟨rfl, fun o _ ho => ho⟩)
  sep := fun t t' g g' hne hg hg' hc hc' => by
   simp only [G', setOb] at hg hg'
   split at hg
   · cases hg; simp at hc
   · split at hg'
     · cases hg'; simp at hc'
     · exact h.sep t t' g g' hne hg hg' hc hc' }
theorem Inv.fzAny {tm : Array Value} {d ver : Nat} {ty : TypeId} {esz : Nat} {pu : Bool} {xs : List (List AV)} (fz : Bool)
 (h : Inv w0 Pr0 G (e.put (.o d) (.obj ver ty esz false pu xs)) tm w) : Inv w0 Pr0 G (e.put (.o d) (.obj ver ty esz fz pu xs)) tm w where
 gle := h.gle
 below := h.below
 pr0 := h.pr0
 prB := h.prB
 gl := h.gl
 prlt := h.prlt
 len := by simpa using h.len
 slots t a v h1 h2 := h.slots t a v (by simpa [Env.put] using h1) h2
 sep := h.sep
 objs t := by
  have := h.objs t
  rw [Env.go_put_o] at this ⊢
  split
  · rename_i hq
    rw [if_pos hq] at this
    obtain ⟨h1, h2, h3, g, h4, h5, h6, h7, h8⟩ := this
    refine ⟨h1, h2, h3, g, h4, h5, h6, h7, ?_⟩
    rcases h8 with h8 | ⟨blk, cs, k1, k2, k3, k4, k5, k6, k7, k8, k9⟩
    · exact .inl h8
    · exact .inr ⟨blk, cs, k1, k2, k3, k4, k5, k6, k7, k8, fun o ho => absurd (k9 o ho).1 (by simp)⟩
  · rename_i hq
    rw [if_neg hq] at this
    exact this
structure News (G : Gh) (w : World) (esz : Nat) (py : Bool) (ys : List (List AV)) (yv : Value) where
 A : Option Addr
 c : Nat
 val : yv = .slice A ys.length c
 rel : ys ≠ [] → ∃ (b o : Nat) (V : Nat → Nat → Value), A = some ⟨b, o, none⟩ ∧ ∀ (i j : Nat) (x : List AV) (a : AV), ys[i]? = some x → x[j]? = some a → w.cell? ⟨b, o + (i * esz + j), none⟩ = some (V i j) ∧ VRel G w a (V i j)
 len : ∀ x ∈ ys, x.length = esz
 set : ∀ x ∈ ys, ∀ a ∈ x, AV.cellQ a = true
 setP : py = true → ∀ x ∈ ys, ∀ a ∈ x, AV.cellP a = true
theorem rowsLen_spec {esz : Nat} {ys : List (List AV)} (h : rowsLen esz ys = true) : ∀ x ∈ ys, x.length = esz := fun x hx => by
 have := List.all_eq_true.1 h x hx
 simpa using this
theorem Inv.news (hI : Inv w0 Pr0 G e a.tmps w) {y : AV} {yv : Value} {py : Bool} {ys : List (List AV)} {esz : Nat} (hy : VRel G w y yv) (hr : e.rows y = some (py, ys)) (hl : rowsLen esz ys = true) (hq : (py || rowsQ ys) = true) :
 Nonempty (News G w esz py ys yv) := by
 have hlen := rowsLen_spec hl
 have hQ : (py = true → ∀ x ∈ ys, ∀ a ∈ x, AV.cellP a = true) → ∀ x ∈ ys, ∀ a ∈ x, AV.cellQ a = true := fun h x hx a ha => by
  rw [Bool.or_eq_true] at hq
  rcases hq with hq | hq
  · exact AV.cellQ_of_P (h hq x hx a ha)
  · exact List.all_eq_true.1 (List.all_eq_true.1 hq x hx) a ha
 cases hy with
 | nils => simp only [Env.rows, Option.some.injEq, Prod.mk.injEq] at hr; obtain ⟨rfl, rfl⟩ := hr; exact ⟨⟨none, 0, rfl, by simp, by simp, by simp, by simp⟩⟩
 | emp A => simp only [Env.rows, Option.some.injEq, Prod.mk.injEq] at hr; obtain ⟨rfl, rfl⟩ := hr; exact ⟨⟨A, 0, rfl, by simp, by simp, by simp, by simp⟩⟩
 | sl0 A c => simp only [Env.rows, Option.some.injEq, Prod.mk.injEq] at hr; obtain ⟨rfl, rfl⟩ := hr; exact ⟨⟨A, c, rfl, by simp, by simp, by simp, by simp⟩⟩
 | sl xs b o c esz' V hc hs hp hcell hpr h =>
   simp only [Env.rows, Option.some.injEq, Prod.mk.injEq] at hr; obtain ⟨rfl, rfl⟩ := hr
   refine ⟨⟨some ⟨b, o, none⟩, c, rfl, fun hne => ⟨b, o, V, rfl, fun i j x a h1 h2 => ?_⟩, hlen, hQ fun _ => hp, fun _ => hp⟩⟩
   have hee : esz' = esz := by rw [← hs x (List.mem_of_getElem? h1), hlen x (List.mem_of_getElem? h1)]
   subst hee
   have := hcell i j x a h1 h2
   rw [Nat.add_assoc] at this
   exact ⟨this, h i j x a h1 h2⟩
 | ref t ver v hv h1 h =>
   simp only [Env.rows] at hr
   cases ho : e.go t with
   | obj ver' oty esz' fz pu xs =>
     rw [ho] at hr
     simp only at hr
     split at hr
     case isFalse => cases hr
     rename_i hver
     subst hver
     simp only [Option.some.injEq, Prod.mk.injEq] at hr
     obtain ⟨rfl, rfl⟩ := hr
     obtain ⟨hcnt, hpu, hs', g, h4, h5, h6, h7, h8⟩ := hI.obj ho
     refine ⟨⟨g.base, g.cap, by rw [h g h4 h5, h6], fun hne => ?_, hlen, hQ hpu, hpu⟩⟩
     rcases h8 with ⟨_, h9⟩ | ⟨blk, arr, k1, k2, k3, k4, k5, k6, k7, k8, k9⟩
     · exact absurd h9 hne
     · refine ⟨blk, 0, fun i j => (arr[i * esz + j]?).getD undef, k1, fun i j x a h1 h2 => ?_⟩
       have hee : esz' = esz := by rw [← hs' x (List.mem_of_getElem? h1), hlen x (List.mem_of_getElem? h1)]
       subst hee
       obtain ⟨u, hu, hr⟩ := k8 i j x a h1 h2
       rw [cell_of_row _ _ _ _ _ _ k3, Nat.zero_add]
       simp only [hu, Option.getD_some]
       exact ⟨trivial, hr⟩
   | _ => rw [ho] at hr; simp at hr
 | win t ver k n v hv h1 h =>
   simp only [Env.rows] at hr
   cases ho : e.go t with
   | obj ver' oty esz' fz pu xs =>
     rw [ho] at hr
     simp only at hr
     split at hr
     case isFalse => cases hr
     rename_i hver
     subst hver
     split at hr
     case isFalse => cases hr
     rename_i hkn
     simp only [Option.some.injEq, Prod.mk.injEq] at hr
     obtain ⟨rfl, rfl⟩ := hr
     obtain ⟨hcnt, hpu, hs', g, h4, h5, h6, h7, h8⟩ := hI.obj ho
     obtain ⟨A, rfl, hcap, hb⟩ := h g h4 h5
     have hln : ((xs.drop k).take n).length = n := by rw [List.length_take, List.length_drop]; omega
     have hat : ∀ i x, ((xs.drop k).take n)[i]? = some x → xs[k + i]? = some x := fun i x hx => by
      rw [List.getElem?_take] at hx
      split at hx
      · rwa [List.getElem?_drop] at hx
      · cases hx
     have hmem : ∀ x ∈ (xs.drop k).take n, x ∈ xs := fun x hx => List.mem_of_mem_drop (List.mem_of_mem_take hx)
     refine ⟨⟨A, g.cap - k, by rw [hln], fun hne => ?_, hlen, hQ fun h x hx => hpu h x (hmem x hx), fun h x hx => hpu h x (hmem x hx)⟩⟩
     have hn0 : 0 < n := by
      rcases Nat.eq_zero_or_pos n with h0 | h0
      · subst h0; exact absurd (List.take_zero) hne
      · exact h0
     rcases h8 with ⟨_, h9⟩ | ⟨blk, arr, k1, k2, k3, k4, k5, k6, k7, k8, k9⟩
     · subst h9; simp at hkn; omega
     · obtain ⟨b, hb1, rfl⟩ := hb (by omega)
       rw [k1] at hb1; cases hb1
       refine ⟨blk, k * g.esz, fun i j => (arr[(k + i) * esz + j]?).getD undef, rfl, fun i j x a h1 h2 => ?_⟩
       have hee : esz' = esz := by rw [← hs' x (hmem x (List.mem_of_getElem? h1)), hlen x (List.mem_of_getElem? h1)]
       subst hee
       obtain ⟨u, hu, hr⟩ := k8 (k + i) j x a (hat i x h1) h2
       have e1 : k * g.esz + (i * esz' + j) = (k + i) * esz' + j := by rw [h7, Nat.add_mul]; omega
       rw [cell_of_row _ _ _ _ _ _ k3, e1]
       simp only [hu, Option.getD_some]
       exact ⟨trivial, hr⟩
   | _ => rw [ho] at hr; simp at hr
 | _ => simp [Env.rows] at hr
def flatV (esz n : Nat) (V : Nat → Nat → Value) : List Value := (List.range (n * esz)).map fun k => V (k / esz) (k % esz)
theorem flatV_len (esz n : Nat) (V : Nat → Nat → Value) : (flatV esz n V).length = n * esz := by simp [flatV]
theorem flatV_get {esz n : Nat} {V : Nat → Nat → Value} {i j : Nat} (hi : i < n) (hj : j < esz) : (flatV esz n V)[i * esz + j]? = some (V i j) := by
 have h := idx_lt hi hj
 have e1 : (i * esz + j) / esz = i := by rw [Nat.mul_comm, Nat.mul_add_div (by omega), Nat.div_eq_of_lt hj, Nat.add_zero]
 have e2 : (i * esz + j) % esz = j := by rw [Nat.mul_comm, Nat.mul_add_mod, Nat.mod_eq_of_lt hj]
 simp [flatV, h, e1, e2]
theorem flatV_at {esz n : Nat} {V : Nat → Nat → Value} {k : Nat} {u : Value} (h : (flatV esz n V)[k]? = some u) (h0 : 0 < esz) : ∃ i j, i < n ∧ j < esz ∧ k = i * esz + j ∧ u = V i j := by
 have hk : k < n * esz := by
  have := (List.getElem?_eq_some_iff.1 h).1
  simpa [flatV] using this
 refine ⟨k / esz, k % esz, ?_, Nat.mod_lt _ h0, (Nat.div_add_mod' k esz).symm, ?_⟩
 · exact Nat.div_lt_of_lt_mul (by rw [Nat.mul_comm]; exact hk)
 · simp [flatV, hk] at h; exact h.symm
theorem news_cells {esz : Nat} {ys : List (List AV)} {b o : Nat} {V : Nat → Nat → Value} (h0 : 0 < esz) (hlen : ∀ x ∈ ys, x.length = esz) (hset : ∀ x ∈ ys, ∀ a ∈ x, AV.cellQ a = true)
 (hrel : ∀ (i j : Nat) (x : List AV) (a : AV), ys[i]? = some x → x[j]? = some a → w.cell? ⟨b, o + (i * esz + j), none⟩ = some (V i j) ∧ VRel G w a (V i j)) :
 (∀ j u, (flatV esz ys.length V)[j]? = some u → w.cell? ((⟨b, o, none⟩ : Addr).add j) = some u) ∧ ∀ u ∈ flatV esz ys.length V, u.oneCell' = true := by
 have key : ∀ i j, i < ys.length → j < esz → ∃ a, AV.cellQ a = true ∧ w.cell? ⟨b, o + (i * esz + j), none⟩ = some (V i j) ∧ VRel G w a (V i j) := fun i j hi hj => by
  have h1 : ys[i]? = some ys[i] := List.getElem?_eq_getElem hi
  have h2 : j < ys[i].length := by rw [hlen _ (List.mem_of_getElem? h1)]; exact hj
  have h3 : ys[i][j]? = some ys[i][j] := List.getElem?_eq_getElem h2
  exact ⟨_, hset _ (List.mem_of_getElem? h1) _ (List.mem_of_getElem? h3), hrel i j _ _ h1 h3⟩
 refine ⟨fun j u hu => ?_, fun u hu => ?_⟩
 · obtain ⟨i, j', hi, hj, rfl, rfl⟩ := flatV_at hu h0
   obtain ⟨a, _, h1, _⟩ := key i j' hi hj
   rw [Addr.add_lit, h1]
 · obtain ⟨k, hk⟩ := List.getElem?_of_mem hu
   obtain ⟨i, j', hi, hj, rfl, rfl⟩ := flatV_at hk h0
   obtain ⟨a, h0, _, h2⟩ := key i j' hi hj
   exact h2.oneCell h0
theorem run_append_none {t et ty : TypeId} {esz : Nat} (ht : P.underlying t = some (.slice et)) (hs : sizeT P et = some esz) (A B : Option Addr) (n c c' : Nat) (hn : n ≤ c) :
 (Builtin.append_ #[t, t] ty #[.slice A n c, .slice B 0 c']).run P w = .ok (.slice A n c) w := by
 cases A <;> cases B <;> simp [Builtin.append_, run_underlying ht, run_sizeOf hs, Builtin.lenOf, hn, Builtin.firstCells, loadCells, loadCellsFrom, storeCells]
theorem zero_of {et : TypeId} {zl esz byt : Nat} (hz : (zeroT P et).map List.length = some zl) (hs : sizeT P et = some esz) (hb : bytesT P et = some byt) :
 ∃ (i : TypeInfo) (z : Value), P.info? et = some i ∧ i.zero = some z ∧ z.cells.size = zl ∧ i.size = esz ∧ i.bytes = byt := by
 unfold zeroT at hz
 unfold sizeT at hs
 unfold bytesT at hb
 cases hi : P.info? et with
 | none => rw [hi] at hs; cases hs
 | some i =>
   rw [hi] at hs hb hz
   simp only [Option.map_some, Option.some.injEq, Option.bind_some] at hs hb hz
   cases hzz : i.zero with
   | none => rw [hzz] at hz; cases hz
   | some z =>
     rw [hzz] at hz
     simp at hz
     exact ⟨i, z, rfl, hzz, hz, hs, hb⟩
theorem append_fresh (hI : Inv w0 Pr0 G e a.tmps w) {d : Nat} (hd : d < e.o.length) {t et ty : TypeId} {esz byt zl : Nat} {py : Bool} {ys : List (List AV)} {yv : Value} {pu : Bool} (hpq : pu = true → py = true) (A : Option Addr)
 (ht : P.underlying t = some (.slice et)) (hs : sizeT P et = some esz) (hb : bytesT P et = some byt) (hz : (zeroT P et).map List.length = some zl) (hzl : zl = esz) (h0 : 0 < esz)
 (hA : A = none ∨ ∃ b, A = some b) (N : News G w esz py ys yv) (hbt : ys.length * byt ≤ 140737488355328) (hmx : ys.length ≤ maxLen) :
 ∃ v w' G', (Builtin.append_ #[t, t] ty #[.slice A 0 0, yv]).run P w = .ok v w' ∧ Inv w0 Pr0 G' (e.put (.o d) (.obj (nextVer (e.go d)) et esz false pu ys)) a.tmps w' ∧ GLe G w G' w' ∧
  VRel G' w' (.ref d (nextVer (e.go d))) v := by
 obtain ⟨YA, yc, rfl, hrel, hlen, hset, hsetP⟩ := N
 by_cases hne : ys = []
 · subst hne
   obtain ⟨G', hle, hI', hob, hcnt⟩ := hI.newEmpty d hd et esz pu A
   refine ⟨_, w, G', run_append_none ht hs A YA 0 0 yc (Nat.le_refl _), hI', hle, .ref d _ _ (by rw [hcnt]; exact Nat.le_refl _) rfl (fun g hg _ => ?_)⟩
   rw [hob] at hg; cases hg; rfl
 · obtain ⟨b, o, V, rfl, hV⟩ := hrel hne
   obtain ⟨i, z, hi, hiz, hzs, hsz, hby⟩ := zero_of hz hs hb
   obtain ⟨n1, n2⟩ := news_cells h0 hlen hset hV
   have hpos : 0 < ys.length := by rcases Nat.eq_zero_or_pos ys.length with h | h; exact absurd (List.eq_nil_of_length_eq_zero h) hne; exact h
   have hfl : (flatV esz ys.length V).length = ys.length * i.size := by rw [flatV_len, hsz]
   have h63 : (ys.length : Int) ≤ 9223372036854775807 := by simp only [maxLen] at hmx; omega
   have fin : ∀ v w', v = .slice (some ⟨w.heap.size, 0, none⟩) ys.length (grownCap w ys.length 0 et) →
    w' = w.drew.alloc (.cells ((flatV esz ys.length V).toArray ++ Builtin.zeroCells z.cells (grownCap w ys.length 0 et - ys.length)) et) →
    ∃ G', Inv w0 Pr0 G' (e.put (.o d) (.obj (nextVer (e.go d)) et esz false pu ys)) a.tmps w' ∧ GLe G w G' w' ∧ VRel G' w' (.ref d (nextVer (e.go d))) v := by
    intro v w' hv hw'
    subst hv hw'
    have hge := grownCap_ge w ys.length 0 et
    obtain ⟨G', hle, hI', hob, hcnt⟩ := hI.newObj (w' := w.drew.alloc (.cells ((flatV esz ys.length V).toArray ++ Builtin.zeroCells z.cells (grownCap w ys.length 0 et - ys.length)) et)) d hd et esz (grownCap w ys.length 0 et) pu ys _ rfl rfl rfl rfl (Nat.le_succ _) (fun h => hsetP (hpq h)) hlen hge (grownCap_le_maxLen w _ _ _ hmx)
     (by rw [Array.size_append, size_zeroCells, List.size_toArray, flatV_len, hzs, hzl, ← Nat.add_mul]; congr 1; omega)
     (fun i' j' x a hx ha => by
       have hi' := (List.getElem?_eq_some_iff.1 hx).1
       have hj' : j' < esz := by rw [← hlen x (List.mem_of_getElem? hx)]; exact (List.getElem?_eq_some_iff.1 ha).1
       refine ⟨V i' j', ?_, (hV i' j' x a hx ha).2⟩
       rw [Array.getElem?_append_left (by rw [List.size_toArray, flatV_len]; exact idx_lt hi' hj'), List.getElem?_toArray]
       exact flatV_get hi' hj')
    refine ⟨G', hI', hle, .ref d _ _ (by rw [hcnt]; exact Nat.le_refl _) rfl (fun g hg _ => ?_)⟩
    rw [hob] at hg; cases hg; rfl
   rcases hA with rfl | ⟨bb, rfl⟩
   · have hr := run_append_nil (P := P) w t ty et i z ht hi hiz ⟨b, o, none⟩ ys.length yc _ hfl n1 hpos h63 (by rw [hby]; omega)
     obtain ⟨G', q1, q2, q3⟩ := fin _ _ rfl rfl
     exact ⟨_, _, G', hr, q1, q2, q3⟩
   · have hr := run_append_grow (P := P) w t ty et i z ht hi hiz bb 0 0 [] (by simp) (by simp) ⟨b, o, none⟩ ys.length yc _ hfl n1 (by omega) (by simpa using h63)
      (by simpa using growslice_fits (need := 0 + ys.length) (old := 0) (bytes := i.bytes) (by omega) (by rw [hby]; simpa using hbt))
     simp only [Nat.zero_add, Array.empty_append] at hr
     obtain ⟨G', q1, q2, q3⟩ := fin _ _ rfl rfl
     exact ⟨_, _, G', hr, q1, q2, q3⟩
def News.mono {G' : Gh} {w' : World} {esz : Nat} {py : Bool} {ys : List (List AV)} {yv : Value} (N : News G w esz py ys yv) (hle : GLe G w G' w') (hc : ∀ a, w'.cell? a = w.cell? a) : News G' w' esz py ys yv :=
 ⟨N.A, N.c, N.val, fun hne => by
   obtain ⟨b, o, V, h1, h2⟩ := N.rel hne
   exact ⟨b, o, V, h1, fun i j x a hx ha => ⟨by rw [hc]; exact (h2 i j x a hx ha).1, (h2 i j x a hx ha).2.mono hle⟩⟩, N.len, N.set, N.setP⟩
theorem Env.puts_same {tm : Array Value} {t : Nat} {x : AV} (hI : Inv w0 Pr0 G e tm w) (h : e.go t = x) : Inv w0 Pr0 G (e.put (.o t) x) tm w where
 gle := hI.gle
 below := hI.below
 pr0 := hI.pr0
 prB := hI.prB
 gl := hI.gl
 prlt := hI.prlt
 len := by simpa using hI.len
 slots u a v h1 h2 := hI.slots u a v (by simpa [Env.put] using h1) h2
 sep := hI.sep
 objs u := by
  rw [Env.go_put_o]
  split
  · rename_i hq
    obtain ⟨rfl, _⟩ := hq
    rw [← h]; exact hI.objs t
  · exact hI.objs u
theorem Inv.overRows (hI : Inv w0 Pr0 G e a.tmps w) {t ver : Nat} {ty : TypeId} {esz : Nat} {pu pu' : Bool} {xs ys : List (List AV)} (ho : e.go t = .obj ver ty esz false pu xs) {g : Ob} (h4 : G.ob t = some g) {blk : Nat} {arr : Array Value}
 (k1 : g.base = some ⟨blk, 0, none⟩) (k3 : w.heap[blk]? = some (.cells arr ty (0, 0))) (hc0 : 0 < g.cap) {k : Nat} (hk : k + ys.length ≤ xs.length) (news : List Value) (hn : news.length = ys.length * esz)
 (hrel : ∀ (i j : Nat) (x : List AV) (a : AV), ys[i]? = some x → x[j]? = some a → ∃ v, news[i * esz + j]? = some v ∧ VRel G w a v) (hylen : ∀ x ∈ ys, x.length = esz)
 (hpu' : pu' = true → pu = true ∧ ∀ x ∈ ys, ∀ a ∈ x, AV.cellP a = true) :
 ∃ G', Inv w0 Pr0 G' (e.put (.o t) (.obj ver ty esz false pu' (xs.take k ++ ys ++ xs.drop (k + ys.length)))) a.tmps (w.setRow blk (arr.toList.take (k * esz) ++ news ++ arr.toList.drop (k * esz + news.length)).toArray) ∧
  GLe G w G' (w.setRow blk (arr.toList.take (k * esz) ++ news ++ arr.toList.drop (k * esz + news.length)).toArray) ∧ G'.ob t = G.ob t ∧ G'.cnt t = G.cnt t ∧ k * esz + news.length ≤ arr.size := by
 have hlt := hI.olt ho
 obtain ⟨hcnt, hpu, hs, g', h4', h5, h6, h7, h8⟩ := hI.obj ho
 rw [h4] at h4'; cases h4'
 rcases h8 with ⟨q, _⟩ | ⟨blk', arr', q1, k2, q3, k4, k5, k6, k7, k8, k9⟩
 · omega
 rw [k1] at q1; cases q1
 rw [k3] at q3; cases q3
 have hall : (xs.take k ++ ys ++ xs.drop (k + ys.length)).length = xs.length := by simp only [List.length_append, List.length_take, List.length_drop]; omega
 have hm1 : (k + ys.length) * esz ≤ xs.length * esz := Nat.mul_le_mul_right _ hk
 have hm2 : xs.length * esz ≤ g.cap * esz := Nat.mul_le_mul_right _ k4
 rw [Nat.add_mul] at hm1
 have hal : (arr.toList.take (k * esz)).length = k * esz := by rw [List.length_take, Array.length_toList]; omega
 have htk : (xs.take k).length = k := by rw [List.length_take]; omega
 have hget : ∀ m : Nat, (arr.toList.take (k * esz) ++ news ++ arr.toList.drop (k * esz + news.length))[m]? =
  if m < k * esz then arr[m]? else if m < k * esz + news.length then news[m - k * esz]? else arr[m]? := by
  intro m
  by_cases hm1 : m < k * esz
  · rw [if_pos hm1, List.append_assoc, List.getElem?_append_left (by omega), List.getElem?_take_of_lt hm1, Array.getElem?_toList]
  · rw [if_neg hm1, List.append_assoc, List.getElem?_append_right (by omega), hal]
    by_cases hm2 : m < k * esz + news.length
    · rw [if_pos hm2, List.getElem?_append_left (by omega)]
    · rw [if_neg hm2, List.getElem?_append_right (by omega), List.getElem?_drop, Array.getElem?_toList]
      congr 1; omega
 have hmemo : ∀ x ∈ xs.take k ++ ys ++ xs.drop (k + ys.length), x ∈ xs ∨ x ∈ ys := fun x hx => by
  rcases List.mem_append.1 hx with hx | hx
  · rcases List.mem_append.1 hx with hx | hx
    · exact .inl (List.mem_of_mem_take hx)
    · exact .inr hx
  · exact .inl (List.mem_of_mem_drop hx)
 have hpl := hI.place t hlt ty esz g.cap ver blk false pu' (xs.take k ++ ys ++ xs.drop (k + ys.length)) (arr.toList.take (k * esz) ++ news ++ arr.toList.drop (k * esz + news.length)).toArray arr
  (.inr ⟨by
    rw [h4, hall]
    obtain ⟨gv, gb, gn, gc, ge⟩ := g
    simp only at h5 h6 h7 k1
    subst h5 h6 h7 k1
    simp, hcnt⟩) k2 k3
  (fun t' g' hne hg' hc' hbs => hI.sep t' t g' g hne hg' h4 hc' k7 (by rw [hbs, k1]))
  (fun o v hp _ => absurd (k9 o hp).1 (by simp))
  (fun o hp => absurd (k9 o hp).1 (by simp))
  (fun hp x hx b hb => by
    rcases hmemo x hx with h | h
    · exact hpu (hpu' hp).1 x h b hb
    · exact (hpu' hp).2 x h b hb)
  (fun x hx => (hmemo x hx).elim (hs x) (hylen x))
  (by rw [hall]; exact k4) k5 k7
  (by
    simp only [List.size_toArray, List.length_append, List.length_drop, hal, Array.length_toList]
    omega)
  (fun i j x b hx hb => by
    rw [List.getElem?_toArray, hget]
    have hj : j < esz := by
     rw [← (hmemo x (List.mem_of_getElem? hx)).elim (hs x) (hylen x)]; exact (List.getElem?_eq_some_iff.1 hb).1
    by_cases hi1 : i < k
    · have := idx_lt (esz := esz) hi1 hj
      rw [if_pos (by omega)]
      rw [List.append_assoc, List.getElem?_append_left (by omega), List.getElem?_take_of_lt hi1] at hx
      exact k8 i j x b hx hb
    · have hge : k * esz ≤ i * esz := Nat.mul_le_mul_right _ (by omega)
      rw [if_neg (by omega)]
      rw [List.append_assoc, List.getElem?_append_right (by omega), htk] at hx
      by_cases hi2 : i < k + ys.length
      · rw [List.getElem?_append_left (by omega)] at hx
        have h1 := idx_lt (esz := esz) (show i < k + ys.length from hi2) hj
        rw [Nat.add_mul] at h1
        rw [if_pos (by omega)]
        have e1 : i * esz + j - k * esz = (i - k) * esz + j := by rw [Nat.sub_mul]; omega
        rw [e1]
        exact hrel (i - k) j x b hx hb
      · have h1 : (k + ys.length) * esz ≤ i * esz := Nat.mul_le_mul_right _ (by omega)
        rw [Nat.add_mul] at h1
        rw [if_neg (by omega)]
        rw [List.getElem?_append_right (by omega), List.getElem?_drop] at hx
        have e1 : k + ys.length + (i - k - ys.length) = i := by omega
        rw [e1] at hx
        exact k8 i j x b hx hb)
 obtain ⟨G', hle, hI', hob, hcn⟩ := hpl
 refine ⟨G', hI', hle, ?_, by rw [hcn, hcnt], by omega⟩
 rw [hob, h4, hall]
 obtain ⟨gv, gb, gn, gc, ge⟩ := g
 simp only at h5 h6 h7 k1
 subst h5 h6 h7 k1
 rfl
theorem Inv.run_append (hI : Inv w0 Pr0 G e a.tmps w) {d : Nat} (hd : d < e.o.length) {t ty : TypeId} {x y r : AV} {xv yv : Value} {ws : Ws} (hx : VRel G w x xv) (hy : VRel G w y yv) (h : e.append P d t x y = some (r, ws)) :
 ∃ v w' G', (Builtin.append_ #[t, t] ty #[xv, yv]).run P w = .ok v w' ∧ Inv w0 Pr0 G' (e.puts ws) a.tmps w' ∧ GLe G w G' w' ∧ VRel G' w' r v := by
 unfold Env.append at h
 cases he : elemT P t with
 | none => rw [he] at h; cases h
 | some et =>
   obtain ⟨ht, _⟩ := elemT_spec he
   rw [he] at h
   simp only at h
   cases hs : sizeT P et with
   | none => rw [hs] at h; simp at h
   | some esz =>
   cases hb' : bytesT P et with
   | none => rw [hs, hb'] at h; simp at h
   | some byt =>
   cases hz : (zeroT P et).map List.length with
   | none => rw [hs, hb', hz] at h; simp at h
   | some zl =>
   cases hrw : e.rows y with
   | none => rw [hs, hb', hz, hrw] at h; simp at h
   | some q =>
   obtain ⟨puy, ys⟩ := q
   rw [hs, hb', hz, hrw] at h
   simp only at h
   split at h
   case isFalse => cases h
   rename_i hzl
   obtain ⟨hzl, h0⟩ := hzl
   split at h
   case isFalse => cases h
   rename_i hrl
   split at h
   case isFalse => cases h
   rename_i hrq
   obtain ⟨N⟩ := hI.news hy hrw hrl hrq
   have fresh : ∀ A, xv = .slice A 0 0 → (if ys.length * byt ≤ 140737488355328 then if ys.length ≤ maxLen then some (AV.ref d (nextVer (e.go d)), [(Comp.o d, AV.obj (nextVer (e.go d)) et esz false puy ys)]) else none else none) = some (r, ws) →
    ∃ v w' G', (Builtin.append_ #[t, t] ty #[xv, yv]).run P w = .ok v w' ∧ Inv w0 Pr0 G' (e.puts ws) a.tmps w' ∧ GLe G w G' w' ∧ VRel G' w' r v := by
    intro A hA h
    split at h
    case isFalse => cases h
    rename_i hbt
    split at h
    case isFalse => cases h
    rename_i hmx
    cases h
    subst hA
    exact append_fresh hI hd (fun h => h) A ht hs hb' hz hzl h0 (by cases A <;> simp) N hbt hmx
   cases hx with
   | nils => exact fresh none rfl h
   | emp A => exact fresh A rfl h
   | ref tt ver v hv h1 hvv =>
     simp only at h
     cases ho : e.go tt with
     | obj ver' oty esz' fz pu xs =>
       rw [ho] at h
       simp only at h
       split at h
       case isFalse => cases h
       rename_i hver
       subst hver
       split at h
       case isFalse => cases h
       rename_i hte
       obtain ⟨rfl, rfl⟩ := hte
       split at h
       case isFalse => cases h
       rename_i hbt
       split at h
       case isFalse => cases h
       rename_i hmx
       cases h
       have hlt := hI.olt ho
       obtain ⟨hcnt, hpu, hs', g, h4, h5, h6, h7, h8⟩ := hI.obj ho
       obtain ⟨G1, l1, I1, b1, b2, b3, b4⟩ := hI.kill ho hlt
       have hgo1 : (e.put (.o tt) (.dead ver)).go d = if d = tt then .dead ver else e.go d := by
        rw [Env.go_put_o]
        by_cases hdt : tt = d
        · subst hdt; simp [hlt]
        · rw [if_neg (fun q => hdt q.1), if_neg (fun q => hdt q.symm)]
       have hnv : nextVer ((e.put (.o tt) (.dead ver)).go d) = if d = tt then ver + 1 else nextVer (e.go d) := by
        rw [hgo1]; split <;> rfl
       have hd1 : d < (e.put (.o tt) (.dead ver)).o.length := by simpa using hd
       have hxv := hvv g h4 h5
       rw [hxv]
       have hne1 : nextVer ((e.put (.o tt) (.dead ver)).go d) = G1.cnt d + 1 := (I1.objs d).cnt_next
       rw [← hnv]
       simp only [Env.puts]
       rcases h8 with ⟨k0, h9⟩ | ⟨blk, arr, k1, k2, k3, k4, k5, k6, k7, k8, k9⟩
       · subst h9
         rw [h6, k0]
         have hfin := append_fresh (P := P) (pu := pu && puy) (ty := ty) I1 hd1 (fun h => ((Bool.and_eq_true _ _).mp h).2) g.base ht hs hb' hz hzl h0 (by cases g.base <;> simp) (N.mono l1 (fun _ => rfl)) (by simpa using hbt) (by simpa using hmx)
         obtain ⟨v', w', G', q1, q2, q3, q4⟩ := hfin
         exact ⟨v', w', G', q1, by simpa only [List.nil_append] using Inv.fzAny fz q2, l1.trans q3, q4⟩
       · obtain ⟨YA, yc, rfl, hrel, hlen, hset, hsetP⟩ := N
         obtain ⟨gv, gb, gn, gc, ge⟩ := g
         simp only at h4 h5 h6 h7 k1 k4 k5 k6 k7
         subst h5 h6 h7 k1
         have hun : ∀ t' g', t' ≠ d → G1.ob t' = some g' → 0 < g'.cap → g'.base ≠ some ⟨blk, 0, none⟩ := fun t' g' _ hg' hc' hbs => by
          have hne : t' ≠ tt := fun q => by rw [q, b2] at hg'; cases hg'
          rw [b1 t' hne] at hg'
          exact hI.sep t' tt g' _ hne hg' h4 hc' k7 (by rw [hbs])
         have hs2 : ∀ x ∈ xs ++ ys, x.length = ge := fun x hx => by
          rcases List.mem_append.1 hx with hx | hx
          · exact hs' x hx
          · exact hlen x hx
         have hpu2 : (pu && puy) = true → ∀ x ∈ xs ++ ys, ∀ a ∈ x, AV.cellP a = true := fun hp x hx => by
          rw [Bool.and_eq_true] at hp
          rcases List.mem_append.1 hx with hx | hx
          · exact hpu hp.1 x hx
          · exact hsetP hp.2 x hx
         by_cases hne : ys = []
         · subst hne
           simp only [List.append_nil]
           obtain ⟨G', hle, hI', hob, hcn⟩ := I1.place d hd1 oty ge gc (nextVer ((e.put (.o tt) (.dead gv)).go d)) blk fz (pu && puy) xs arr arr (.inl (by omega)) k2 k3 hun (fun o v _ h => h) (fun o ho => k9 o (by rw [b4] at ho; exact ho)) (fun h => hpu ((Bool.and_eq_true _ _).mp h).1) hs' k4 k5 k7 k6
            (fun i j x a hx ha => by obtain ⟨u, hu, hr⟩ := k8 i j x a hx ha; exact ⟨u, hu, hr.mono l1⟩)
           rw [setRow_self w blk arr oty (0, 0) k3] at hI' hle
           refine ⟨_, w, G', run_append_none ht hs (some ⟨blk, 0, none⟩) YA xs.length gc yc k4, hI', l1.trans hle, .ref d _ _ (by rw [hcn]; exact Nat.le_refl _) rfl (fun g hg _ => ?_)⟩
           rw [hob] at hg; cases hg; rfl
         · obtain ⟨b, o, V, rfl, hV⟩ := hrel hne
           obtain ⟨i, z, hi, hiz, hzs, hsz, hby⟩ := zero_of hz hs hb'
           obtain ⟨n1, n2⟩ := news_cells h0 hlen hset hV
           have hpos : 0 < ys.length := by rcases Nat.eq_zero_or_pos ys.length with h | h; exact absurd (List.eq_nil_of_length_eq_zero h) hne; exact h
           have hfl : (flatV ge ys.length V).length = ys.length * i.size := by rw [flatV_len, hsz]
           have hfl' := flatV_len ge ys.length V
           have hnx : xs.length * ge ≤ gc * ge := Nat.mul_le_mul_right _ k4
           have hrd : ∀ (L : List Value), L.take (xs.length * ge) = arr.toList.take (xs.length * ge) → (∀ k, k < ys.length * ge → L[xs.length * ge + k]? = (flatV ge ys.length V)[k]?) →
            ∀ (i' j' : Nat) (x : List AV) (b' : AV), (xs ++ ys)[i']? = some x → x[j']? = some b' → ∃ v, L[i' * ge + j']? = some v ∧ VRel G1 w b' v := by
            intro L hL1 hL2 i' j' x b' hx hb'
            have hj' : j' < ge := by rw [← hs2 x (List.mem_of_getElem? hx)]; exact (List.getElem?_eq_some_iff.1 hb').1
            by_cases hlt' : i' < xs.length
            · rw [List.getElem?_append_left hlt'] at hx
              obtain ⟨u, hu, hr⟩ := k8 i' j' x b' hx hb'
              refine ⟨u, ?_, hr.mono l1⟩
              have hk := idx_lt hlt' hj'
              have q1 : L[i' * ge + j']? = (L.take (xs.length * ge))[i' * ge + j']? := (List.getElem?_take_of_lt hk).symm
              rw [q1, hL1, List.getElem?_take_of_lt hk, Array.getElem?_toList]
              exact hu
            · rw [List.getElem?_append_right (by omega)] at hx
              have hi'' := (List.getElem?_eq_some_iff.1 hx).1
              refine ⟨V (i' - xs.length) j', ?_, ((hV _ _ x b' hx hb').2).mono l1⟩
              have e1 : i' * ge + j' = xs.length * ge + ((i' - xs.length) * ge + j') := by
               have : i' * ge = xs.length * ge + (i' - xs.length) * ge := by rw [← Nat.add_mul]; congr 1; omega
               omega
              rw [e1, hL2 _ (idx_lt hi'' hj')]
              exact flatV_get hi'' hj'
           by_cases hroom : xs.length + ys.length ≤ gc
           · have hmm : (xs.length + ys.length) * ge ≤ gc * ge := Nat.mul_le_mul_right _ hroom
             rw [Nat.add_mul] at hmm
             have hr := run_append_room (P := P) w t ty oty i ht hi blk xs.length gc arr k3 ⟨b, o, none⟩ ys.length yc _ hfl n1 n2 hroom (by rw [hsz, hfl']; omega)
             rw [hsz, hfl'] at hr
             have htl : (arr.toList.take (xs.length * ge)).length = xs.length * ge := by rw [List.length_take, show arr.toList.length = arr.size from rfl]; omega
             obtain ⟨G', hle, hI', hob, hcn⟩ := I1.place d hd1 oty ge gc (nextVer ((e.put (.o tt) (.dead gv)).go d)) blk fz (pu && puy) (xs ++ ys)
              (arr.toList.take (xs.length * ge) ++ flatV ge ys.length V ++ arr.toList.drop (xs.length * ge + ys.length * ge)).toArray arr (.inl (by omega)) k2 k3 hun
              (fun o' v hp hv => by
                rw [b4] at hp
                have hlt' := (k9 o' hp).2
                rw [List.getElem?_toArray, List.append_assoc, List.getElem?_append_left (by omega), List.getElem?_take_of_lt hlt', Array.getElem?_toList]
                exact hv)
              (fun o' ho' => by
                rw [b4] at ho'
                have := k9 o' ho'
                refine ⟨this.1, ?_⟩
                rw [List.length_append, Nat.add_mul]; omega)
              hpu2 hs2 (by rw [List.length_append]; exact hroom) k5 k7
              (by rw [List.size_toArray, List.length_append, List.length_append, htl, hfl', List.length_drop, show arr.toList.length = arr.size from rfl]; omega)
              (fun i' j' x b' hx hb' => by
                simp only [List.getElem?_toArray]
                exact hrd _ (by rw [List.append_assoc, List.take_left' htl]) (fun k hk => by
                 rw [List.append_assoc, List.getElem?_append_right (by omega), htl, List.getElem?_append_left (by omega)]
                 congr 1; omega) i' j' x b' hx hb')
             refine ⟨_, _, G', hr, hI', l1.trans hle, .ref d _ _ (by rw [hcn]; exact Nat.le_refl _) rfl (fun g hg _ => ?_)⟩
             rw [hob] at hg; cases hg
             rw [List.length_append]
           · have holds : ∀ j v, (arr.toList.take (xs.length * ge))[j]? = some v → w.cell? ((⟨blk, 0, none⟩ : Addr).add j) = some v := fun j v hj => by
              rw [Addr.add_lit, Nat.zero_add, cell_of_row _ _ _ _ _ _ k3]
              rw [List.getElem?_take] at hj
              split at hj
              · rwa [Array.getElem?_toList] at hj
              · cases hj
             have htl : (arr.toList.take (xs.length * ge)).length = xs.length * ge := by rw [List.length_take, show arr.toList.length = arr.size from rfl]; omega
             have h63 : ((xs.length + ys.length : Nat) : Int) ≤ 9223372036854775807 := by simp only [maxLen] at hmx; omega
             have hr := run_append_grow (P := P) w t ty oty i z ht hi hiz ⟨blk, 0, none⟩ xs.length gc (arr.toList.take (xs.length * ge)) (by rw [htl, hsz]) holds ⟨b, o, none⟩ ys.length yc _ hfl n1 (by omega) h63
              (growslice_fits (by omega) (by rw [hby]; exact hbt))
             have hge := grownCap_ge w (xs.length + ys.length) gc oty
             obtain ⟨G', hle, hI', hob, hcn⟩ := I1.newObj
              (w' := w.drew.alloc (.cells ((arr.toList.take (xs.length * ge)).toArray ++ (flatV ge ys.length V).toArray ++ Builtin.zeroCells z.cells (grownCap w (xs.length + ys.length) gc oty - (xs.length + ys.length))) oty))
              d hd1 oty ge (grownCap w (xs.length + ys.length) gc oty) (pu && puy) (xs ++ ys) _ rfl rfl rfl rfl (Nat.le_succ _) hpu2 hs2 (by rw [List.length_append]; exact hge) (grownCap_le_maxLen w _ _ _ hmx)
              (by
                rw [Array.size_append, Array.size_append, size_zeroCells, List.size_toArray, List.size_toArray, htl, hfl', hzs, hzl, ← Nat.add_mul, ← Nat.add_mul]; congr 1; omega)
              (fun i' j' x b' hx hb' => by
                obtain ⟨u, hu, hr⟩ := hrd ((arr.toList.take (xs.length * ge)) ++ (flatV ge ys.length V)) (by rw [List.take_left' htl]) (fun k hk => by
                 rw [List.getElem?_append_right (by omega), htl]; congr 1; omega) i' j' x b' hx hb'
                have hlt' := (List.getElem?_eq_some_iff.1 hu).1
                refine ⟨u, ?_, hr⟩
                rw [Array.getElem?_append_left (by rw [Array.size_append, List.size_toArray, List.size_toArray, ← List.length_append]; exact hlt'), List.append_toArray, List.getElem?_toArray]
                exact hu)
             refine ⟨_, _, G', hr, Inv.fzAny fz hI', l1.trans hle, .ref d _ _ (by rw [hcn]; exact Nat.le_refl _) rfl (fun g hg _ => ?_)⟩
             rw [hob] at hg; cases hg
             rw [List.length_append]
     | _ => rw [ho] at h; simp at h
   | win tt ver k n v hv h1 hvv =>
     simp only at h
     cases ho : e.go tt with
     | obj ver' oty esz' fz pu xs =>
       rw [ho] at h
       cases fz with
       | true => simp at h
       | false =>
       simp only at h
       split at h
       case isFalse => cases h
       rename_i hver
       subst hver
       split at h
       case isFalse => cases h
       rename_i hte
       obtain ⟨rfl, rfl⟩ := hte
       split at h
       case isFalse => cases h
       rename_i hfit
       split at h
       case isFalse => cases h
       rename_i hpy
       subst hpy
       cases h
       obtain ⟨hcnt, hpu, hs', g, h4, h5, h6, h7, h8⟩ := hI.obj ho
       obtain ⟨A, rfl, hcap, hb⟩ := hvv g h4 h5
       obtain ⟨YA, yc, rfl, hrel, hlen, hset, hsetP⟩ := N
       by_cases hne : ys = []
       · subst hne
         refine ⟨_, w, G, run_append_none ht hs A YA n (g.cap - k) yc (by omega), ?_, GLe.refl _ _, .win tt ver k (n + 0) _ hv rfl (fun g' hg' he' => ?_)⟩
         · refine Env.puts_same hI ?_
           rw [ho]; simp
         · rw [h4] at hg'; cases hg'
           exact ⟨A, rfl, hcap, hb⟩
       · have hpos : 0 < ys.length := by rcases Nat.eq_zero_or_pos ys.length with h | h; exact absurd (List.eq_nil_of_length_eq_zero h) hne; exact h
         obtain ⟨i, z, hi, hiz, hzs, hsz, hby⟩ := zero_of hz hs hb'
         rcases h8 with ⟨_, h9⟩ | ⟨blk, arr, k1, k2, k3, k4, k5, k6, k7, k8, k9⟩
         · rw [h9, List.length_nil] at hfit; omega
         obtain ⟨bb, hb1, rfl⟩ := hb (by omega)
         rw [k1] at hb1; cases hb1
         obtain ⟨b, o, V, rfl, hV⟩ := hrel hne
         obtain ⟨n1, n2⟩ := news_cells h0 hlen hset hV
         have hfl' := flatV_len esz' ys.length V
         obtain ⟨G', hI', hle, hob, hcn, hsize⟩ := hI.overRows (pu' := pu) (ys := ys) ho h4 k1 k3 k7 (k := k + n) hfit (flatV esz' ys.length V) hfl'
          (fun i' j' x b' hx hb' => ⟨V i' j', flatV_get (List.getElem?_eq_some_iff.1 hx).1 (by rw [← hlen x (List.mem_of_getElem? hx)]; exact (List.getElem?_eq_some_iff.1 hb').1), (hV i' j' x b' hx hb').2⟩) hlen
          (fun hp => ⟨hp, hsetP rfl⟩)
         have hf := run_firstCells_some (P := P) w esz' ys.length ⟨b, o, none⟩ ys.length yc _ (by rw [hfl']) n1
         have hst := run_storeCells_at P blk ((k + n) * esz') oty (flatV esz' ys.length V) 0 arr w k3 (by simpa using hsize) n2
         simp only [Nat.add_zero] at hst
         refine ⟨.slice (some ⟨blk, k * g.esz, none⟩) (n + ys.length) (g.cap - k), _, G', ?_, hI', hle, .win tt _ k (n + ys.length) _ (by rw [hcn, hcnt]; exact Nat.le_refl _) rfl (fun g' hg' he' => ?_)⟩
         · have hroom : n + ys.length ≤ g.cap - k := by omega
           have e1 : k * g.esz + n * esz' = (k + n) * esz' := by rw [h7, Nat.add_mul]
           simp [Builtin.append_, run_underlying ht, run_sizeOf hs, Builtin.lenOf, hroom, hf, Addr.add_lit, e1, hst]
         · rw [hob, h4] at hg'; cases hg'
           exact ⟨_, rfl, by omega, fun _ => ⟨blk, k1, rfl⟩⟩
     | _ => rw [ho] at h; simp at h
   | _ => simp at h
theorem Inv.run_clear (hI : Inv w0 Pr0 G e a.tmps w) {t ty : TypeId} {x : AV} {xv : Value} {ws : Ws} (hx : VRel G w x xv) (h : e.clear P t x = some ws) :
 ∃ v w' G', (Builtin.clear_ #[t] ty #[xv]).run P w = .ok v w' ∧ Inv w0 Pr0 G' (e.puts ws) a.tmps w' ∧ GLe G w G' w' := by
 unfold Env.clear at h
 cases he : elemT P t with
 | none => rw [he] at h; cases h
 | some et =>
 obtain ⟨ht, _⟩ := elemT_spec he
 rw [he] at h
 simp only at h
 cases hs : sizeT P et with
 | none => rw [hs] at h; simp at h
 | some esz =>
 cases hz : zeroT P et with
 | none => rw [hs, hz] at h; simp at h
 | some z =>
 rw [hs, hz] at h
 cases hx with
 | win tt ver k n v hv h1 hvv =>
   simp only at h
   split at h
   case isFalse => cases h
   rename_i hzl
   obtain ⟨hzl, hzp⟩ := hzl
   cases ho : e.go tt with
   | obj ver' oty esz' fz pu xs =>
     rw [ho] at h
     cases fz with
     | true => simp at h
     | false =>
     simp only at h
     split at h
     case isFalse => cases h
     rename_i hver
     subst hver
     split at h
     case isFalse => cases h
     rename_i hes
     subst hes
     split at h
     case isFalse => cases h
     rename_i hfit
     cases h
     obtain ⟨hcnt, hpu, hs', g, h4, h5, h6, h7, h8⟩ := hI.obj ho
     obtain ⟨A, rfl, hcap, hb⟩ := hvv g h4 h5
     have hzero : ∃ i zv, P.info? et = some i ∧ i.zero = some zv ∧ z = zv.cells.toList.map absV ∧ ∀ w, (zeroValue et).run P w = .ok zv w := by
      unfold zeroT at hz
      cases hi : P.info? et with
      | none => rw [hi] at hz; cases hz
      | some i =>
        rw [hi] at hz
        cases hzz : i.zero with
        | none => simp [hzz] at hz
        | some zv =>
          simp [hzz] at hz
          exact ⟨i, zv, rfl, hzz, hz.symm, fun w => by simp [zeroValue, typeInfo, hi, hzz]⟩
     obtain ⟨i, zv, hi, hiz, rfl, hzr⟩ := hzero
     simp only [List.length_map, Array.length_toList] at hzl
     by_cases hn0 : n = 0
     · subst hn0
       refine ⟨.tuple #[], w, G, ?_, Env.puts_same hI (by rw [ho]; simp), GLe.refl _ _⟩
       · cases A <;> simp [Builtin.clear_, run_underlying ht]
     · rcases h8 with ⟨_, h9⟩ | ⟨blk, arr, k1, k2, k3, k4, k5, k6, k7, k8, k9⟩
       · subst h9; simp at hfit; omega
       obtain ⟨bb, hb1, rfl⟩ := hb (by omega)
       rw [k1] at hb1; cases hb1
       have hzc : (Builtin.zeroCells zv.cells n).toList.length = n * esz' := by rw [Array.length_toList, size_zeroCells, hzl]
       have hzg : ∀ m, m < n * esz' → (Builtin.zeroCells zv.cells n).toList[m]? = some (zv.cells.getD (m % esz') default) := fun m hm => by
        have h0 : 0 < esz' := by
         rcases Nat.eq_zero_or_pos esz' with h | h
         · rw [h] at hm; omega
         · exact h
        have hml : m % esz' < zv.cells.size := by rw [hzl]; exact Nat.mod_lt _ h0
        have hm' : m < n * zv.cells.size := by rw [hzl]; exact hm
        simp [Builtin.zeroCells, hm', hzl, Array.getD_eq_getD_getElem?, Array.getElem?_eq_getElem hml]
        exact ⟨m, by simp [hm], getElem!_pos zv.cells (m % esz') hml⟩
       have hzat : ∀ (j : Nat) (b : AV), (zv.cells.toList.map absV)[j]? = some b → VRel G w b (zv.cells.getD j default) ∧ j < esz' := fun j b hb => by
        have hj : j < zv.cells.size := by have := (List.getElem?_eq_some_iff.1 hb).1; simpa using this
        rw [List.getElem?_map, Array.getElem?_toList, Array.getElem?_eq_getElem hj] at hb
        simp only [Option.map_some, Option.some.injEq] at hb
        subst hb
        rw [Array.getD_eq_getD_getElem?, Array.getElem?_eq_getElem hj]
        exact ⟨absV_rel G w _, by omega⟩
       obtain ⟨G', hI', hle, hob, hcn, hsize⟩ := hI.overRows (pu' := pu) (ys := List.replicate n (zv.cells.toList.map absV)) ho h4 k1 k3 k7 (k := k) (by simpa using hfit) (Builtin.zeroCells zv.cells n).toList (by rw [hzc, List.length_replicate])
        (fun i' j' x b' hx hb' => by
          have hxe := List.eq_of_mem_replicate (List.mem_of_getElem? hx)
          subst hxe
          have hi' : i' < n := by have := (List.getElem?_eq_some_iff.1 hx).1; simpa using this
          obtain ⟨q1, q2⟩ := hzat j' b' hb'
          refine ⟨_, hzg _ (idx_lt hi' q2), ?_⟩
          have e2 : (i' * esz' + j') % esz' = j' := by rw [Nat.mul_comm, Nat.mul_add_mod, Nat.mod_eq_of_lt q2]
          rw [e2]; exact q1)
        (fun x hx => by rw [List.eq_of_mem_replicate hx]; simp [hzl])
        (fun hp => ⟨hp, fun x hx b hb => by rw [List.eq_of_mem_replicate hx] at hb; exact List.all_eq_true.1 hzp b hb⟩)
       have hone : ∀ u ∈ (Builtin.zeroCells zv.cells n).toList, u.oneCell' = true := fun u hu => by
        obtain ⟨m, hm⟩ := List.getElem?_of_mem hu
        have hml : m < n * esz' := by rw [← hzc]; exact (List.getElem?_eq_some_iff.1 hm).1
        rw [hzg m hml] at hm
        simp only [Option.some.injEq] at hm
        subst hm
        have h0 : 0 < esz' := by
         rcases Nat.eq_zero_or_pos esz' with h | h
         · rw [h] at hml; omega
         · exact h
        have hmm : m % esz' < (zv.cells.toList.map absV).length := by simp [hzl]; exact Nat.mod_lt _ h0
        have hgt := List.getElem?_eq_getElem hmm
        exact (hzat _ _ hgt).1.oneCell (AV.cellQ_of_P (List.all_eq_true.1 hzp _ (List.mem_of_getElem? hgt)))
       have hst := run_storeCells_at P blk (k * esz') oty (Builtin.zeroCells zv.cells n).toList 0 arr w k3 (by simpa using hsize) hone
       simp only [Nat.add_zero] at hst
       simp only [List.length_replicate] at hI'
       obtain ⟨m, rfl⟩ : ∃ m, n = m + 1 := ⟨n - 1, by omega⟩
       refine ⟨.tuple #[], _, G', ?_, hI', hle⟩
       simp [Builtin.clear_, run_underlying ht, hzr, h7, hst]
   | _ => rw [ho] at h; simp at h
 | _ => simp at h
end
end Go.Proofs.YtbhgehhmjpipiaaGreatDoor.Ab
