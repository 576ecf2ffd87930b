/- Chapter 10: slices.Insert of one grant: what the run makes of it, the ways by room. -/
import Derived.Test.YtdmcmfdmnlckdaaF25
import Derived.Shelf.Spec.SlicesInsertGrow
namespace Go.Proofs.Ytdmcmfdmnlckdaa.C10
open Go Go.Proofs Go.RowKit Go.Lib
set_option linter.unusedSimpArgs false
set_option linter.unusedVariables false

/-- A copy of elements of any size: all is read before anything is written. -/
theorem run_copy_rows {P : Program} (w : World) (dT sT ty elem : TypeId) (size b o dLen dCap : Nat) (a : Addr) (sLen sCap : Nat) (cs : List Value)
    (hu : P.underlying dT = some (.slice elem)) (hs : (P.info? elem).map (·.size) = some size) (hn : cs.length = Nat.min sLen dLen * size)
    (hsrc : ∀ j v, cs[j]? = some v → w.cell? (a.add j) = some v) (hc : ∀ j, j < cs.length → (w.cell? ⟨b, o + j, none⟩).isSome = true) (hf : ∀ j, j < cs.length → w.frozen? ⟨b, o + j, none⟩ = false) (h1 : ∀ v ∈ cs, v.oneCell' = true) :
    (Builtin.copy_ #[dT, sT] ty #[.slice (some ⟨b, o, none⟩) dLen dCap, .slice (some a) sLen sCap]).run P w = .ok (goInt (Nat.min sLen dLen)) (w.setCells b o cs) := by
  have hl := run_loadCells_list (P := P) w a cs hsrc
  have hst := run_storeCells_cells (P := P) b o cs 0 w (by simpa using hc) (by simpa using hf) h1
  rw [hn] at hl
  cases hq : P.info? elem with
  | none => simp [hq] at hs
  | some i =>
    have hi : i.size = size := by simpa [hq] using hs
    simp [Builtin.copy_, run_underlying hu, Builtin.lenOf, Builtin.firstCells, sizeOf, typeInfo, hq, hi, hl, hst]

set_option maxHeartbeats 4000000 in
set_option maxRecDepth 100000 in
theorem ins_end_room (b off n c vb voff m vc : Nat) (vs : List Value) (w : World) (hm : 0 < m) (hroom : n + m ≤ c) (hc63 : c ≤ 9223372036854775807)
    (hvl : vs.length = m * 2) (hsp : ∀ j, j < m * 2 → (w.cell? ⟨b, off + n * 2 + j, none⟩).isSome = true) (hfz : ∀ j, j < m * 2 → w.frozen? ⟨b, off + n * 2 + j, none⟩ = false)
    (hvs : ∀ j v, vs[j]? = some v → w.cell? ⟨vb, voff + j, none⟩ = some v) (h1v : ∀ v ∈ vs, v.oneCell' = true) :
    Calls Try.prog 108 #[.slice (some ⟨b, off, none⟩) n c, .int .i64 n, .slice (some ⟨vb, voff, none⟩) m vc] w fun e w' =>
      e = .returned (.slice (some ⟨b, off, none⟩) (n + m) c) ∧ w' = w.setCells b (off + n * 2) vs := by
  have t0 := Try.underlying0; have a0 := Try.isAgg0; have z0 := Try.sizeOf0; have v0 := Try.zeroValue0; have t3 := Try.underlying3; have a3 := Try.isAgg3; have z3 := Try.sizeOf3; have v3 := Try.zeroValue3; have t4 := Try.underlying4; have a4 := Try.isAgg4; have z4 := Try.sizeOf4; have v4 := Try.zeroValue4; have t65 := Try.underlying65; have a65 := Try.isAgg65; have z65 := Try.sizeOf65; have v65 := Try.zeroValue65; have t60 := Try.underlying60; have a60 := Try.isAgg60; have z60 := Try.sizeOf60; have v60 := Try.zeroValue60
  have u0 := run_underlying Try.underlying0; have u3 := run_underlying Try.underlying3; have u4 := run_underlying Try.underlying4; have u65 := run_underlying Try.underlying65; have u60 := run_underlying Try.underlying60
  have mixed := mixed
  have hz1 : ¬ ((m : Int) = 0) := by omega
  obtain ⟨i0, hi0, hz0⟩ : ∃ i0, Try.prog.info? 65 = some i0 ∧ i0.size = 2 := ⟨_, rfl, by kernel_rfl⟩
  have hsrc : Src Try.prog i0.size 60 (.slice (some ⟨vb, voff, none⟩) m vc) m vs w := Src.ofSlice w Try.underlying60 ⟨vb, voff, none⟩ m vc vs (by rw [hz0]; omega) (fun j u hj => by rw [Addr.add_lit]; exact hvs j u hj) h1v
  go_enter Try.func108, Try.ntmps108
  go_wp2_with (at_builtin; refine wpList_append_room_src _ rfl _ _ 60 60 rfl 65 i0 Try.underlying60 hi0 b off n c rfl _ rfl m vs hsrc hroom (by rw [hvl, hz0]; exact hsp) (by rw [hvl, hz0]; exact hfz) ?_)
  go_ret
  exact ⟨rfl, rfl⟩

def zG : List Value := [.string ⟨#[]⟩, .int .i64 0]
def zGs (n : Nat) : Array Value := Builtin.zeroCells (Value.agg #[.string ⟨#[]⟩, .int .i64 0]).cells n
set_option maxHeartbeats 4000000 in
set_option maxRecDepth 100000 in
theorem ins_end_grow (base : Option Addr) (n c vb voff m vc : Nat) (cs vs : List Value) (w : World) (hm : 0 < m) (hnc : n ≤ c) (hroom : c < n + m) (hbig : (n + m) * 24 ≤ 140737488355328)
    (hcl : cs.length = n * 2) (hvl : vs.length = m * 2) (hnil : base = none → n = 0)
    (hcs : ∀ a, base = some a → ∀ j v, cs[j]? = some v → w.cell? (a.add j) = some v)
    (hvs : ∀ j v, vs[j]? = some v → w.cell? ⟨vb, voff + j, none⟩ = some v) (h1v : ∀ v ∈ vs, v.oneCell' = true) :
    Calls Try.prog 108 #[.slice base n c, .int .i64 n, .slice (some ⟨vb, voff, none⟩) m vc] w fun e w' =>
      e = .returned (.slice (some ⟨w.heap.size, 0, none⟩) (n + m) (grownCap w (n + m) c 65)) ∧
      w' = w.drew.alloc (.cells ((cs ++ vs).toArray ++ zGs (grownCap w (n + m) c 65 - (n + m))) 65) := by
  have t0 := Try.underlying0; have a0 := Try.isAgg0; have z0 := Try.sizeOf0; have v0 := Try.zeroValue0; have t3 := Try.underlying3; have a3 := Try.isAgg3; have z3 := Try.sizeOf3; have v3 := Try.zeroValue3; have t4 := Try.underlying4; have a4 := Try.isAgg4; have z4 := Try.sizeOf4; have v4 := Try.zeroValue4; have t65 := Try.underlying65; have a65 := Try.isAgg65; have z65 := Try.sizeOf65; have v65 := Try.zeroValue65; have t60 := Try.underlying60; have a60 := Try.isAgg60; have z60 := Try.sizeOf60; have v60 := Try.zeroValue60
  have u0 := run_underlying Try.underlying0; have u3 := run_underlying Try.underlying3; have u4 := run_underlying Try.underlying4; have u65 := run_underlying Try.underlying65; have u60 := run_underlying Try.underlying60
  have mixed := mixed
  obtain ⟨i0, hi0, hz0, hzs, hzb⟩ : ∃ i0, Try.prog.info? 65 = some i0 ∧ i0.zero = some (Value.agg #[.string ⟨#[]⟩, .int .i64 0]) ∧ i0.size = 2 ∧ i0.bytes = 24 := ⟨_, rfl, by kernel_rfl, by kernel_rfl, by kernel_rfl⟩
  have hz1 : ¬ ((m : Int) = 0) := by omega
  have hsrc : Src Try.prog i0.size 60 (.slice (some ⟨vb, voff, none⟩) m vc) m vs w := Src.ofSlice w Try.underlying60 ⟨vb, voff, none⟩ m vc vs (by rw [hzs]; omega) (fun j u hj => by rw [Addr.add_lit]; exact hvs j u hj) h1v
  have hold : (Builtin.firstCells i0.size n (.slice base n c)).run Try.prog w.drew = .ok cs.toArray w.drew := by
    rw [hzs]
    cases base with
    | none =>
      have h0 := hnil rfl
      subst h0
      rw [List.length_eq_zero_iff.1 (by omega : cs.length = 0)]
      exact run_firstCells_none w.drew 2 0 0 c
    | some a => exact run_firstCells_some w.drew 2 n a n c cs (by omega) (fun j v hj => hcs a rfl j v hj)
  have hrun : ∀ ty, (Builtin.append_ #[60, 60] ty #[.slice base n c, .slice (some ⟨vb, voff, none⟩) m vc]).run Try.prog w = _ := fun ty =>
    run_append_grow_src w 60 60 ty 65 i0 _ Try.underlying60 hi0 hz0 base n c cs hold _ m vs hsrc hroom (by omega) (by rw [hzb]; exact growslice_fits hroom hbig)
  go_enter Try.func108, Try.ntmps108
  cases base with
  | none =>
    have h0 := hnil rfl
    subst h0
    go_wp2_with (at_builtin; refine Lib.wpList_append_run _ rfl _ _ _ _ rfl _ _ rfl rfl _ _ (hrun _) ?_)
    go_ret
    exact ⟨rfl, rfl⟩
  | some a =>
    obtain ⟨ab, ao, asp⟩ := a
    go_wp2_with (at_builtin; refine Lib.wpList_append_run _ rfl _ _ _ _ rfl _ _ rfl rfl _ _ (hrun _) ?_)
    all_goals (go_ret; exact ⟨rfl, rfl⟩)

set_option maxHeartbeats 4000000 in
set_option maxRecDepth 100000 in
theorem ins_shift (b off n c i vb voff m vc : Nat) (cs vs : List Value) (w : World) (hi : i < n) (hm : 0 < m) (hroom : n + m ≤ c) (hc63 : c ≤ 9223372036854775807) (hvb : vb ≠ b)
    (hcl : cs.length = n * 2) (hvl : vs.length = m * 2)
    (hcs : ∀ j v, cs[j]? = some v → w.cell? ⟨b, off + j, none⟩ = some v) (hsp : ∀ j, j < (n + m) * 2 → (w.cell? ⟨b, off + j, none⟩).isSome = true) (hfz : ∀ j, j < (n + m) * 2 → w.frozen? ⟨b, off + j, none⟩ = false)
    (hvs : ∀ j v, vs[j]? = some v → w.cell? ⟨vb, voff + j, none⟩ = some v) (h1c : ∀ v ∈ cs, v.oneCell' = true) (h1v : ∀ v ∈ vs, v.oneCell' = true)
    (tA tB : TypeId) (kA kB : Nat) (hsa : w.shape? vb = some (tA, kA)) (hsb : w.shape? b = some (tB, kB)) (hkB : kB ≠ 0) (hfa : w.frozen? ⟨vb, voff, none⟩ = false) (hfe : w.frozen? ⟨vb, kA, none⟩ = false) :
    Calls Try.prog 108 #[.slice (some ⟨b, off, none⟩) n c, .int .i64 i, .slice (some ⟨vb, voff, none⟩) m vc] w fun e w' =>
      e = .returned (.slice (some ⟨b, off, none⟩) (n + m) c) ∧ w' = (w.drew.setCells b (off + (i + m) * 2) (cs.drop (i * 2))).setCells b (off + i * 2) vs := by
  have t0 := Try.underlying0; have a0 := Try.isAgg0; have z0 := Try.sizeOf0; have v0 := Try.zeroValue0; have t3 := Try.underlying3; have a3 := Try.isAgg3; have z3 := Try.sizeOf3; have v3 := Try.zeroValue3; have t4 := Try.underlying4; have a4 := Try.isAgg4; have z4 := Try.sizeOf4; have v4 := Try.zeroValue4; have t65 := Try.underlying65; have a65 := Try.isAgg65; have z65 := Try.sizeOf65; have v65 := Try.zeroValue65; have t60 := Try.underlying60; have a60 := Try.isAgg60; have z60 := Try.sizeOf60; have v60 := Try.zeroValue60
  have u0 := run_underlying Try.underlying0; have u3 := run_underlying Try.underlying3; have u4 := run_underlying Try.underlying4; have u65 := run_underlying Try.underlying65; have u60 := run_underlying Try.underlying60
  have mixed := mixed
  have hz1 : ¬ ((m : Int) = 0) := by omega
  have hz2 : ¬ ((i : Int) = (n : Int)) := by omega
  have hsz : (Try.prog.info? 65).map (·.size) = some 2 := by kernel_rfl
  have hov : ∀ lb cb, (callFunc 124 #[.slice (some ⟨vb, voff, none⟩) m vc, .slice (some ⟨b, off + (i + m) * 2, none⟩) lb cb]).run Try.prog w = .ok (.value (.bool false)) w := fun lb cb => by
    rw [run_callFunc_extern Try.func124 (by kernel_rfl) (by kernel_rfl) (by kernel_rfl) (e := Extern.SlicesOverlaps.overlaps #[60, 60] #[4]) (by kernel_rfl),
      Lib.run_overlaps_apart w 60 4 65 Try.underlying60 2 Try.sizeOf65 ⟨vb, voff, none⟩ ⟨b, off + (i + m) * 2, none⟩ m vc lb cb hvb tA tB kA kB hsa hsb hkB hfa hfe]
    rfl
  have hdl : (cs.drop (i * 2)).length = (n - i) * 2 := by rw [List.length_drop, hcl]; omega
  have hw1 : IntKind.i64.wrap ((i : Int) + (m : Int)) = (i : Int) + (m : Int) := by rw [IntKind.wrap_i64]; omega
  have hb1 : (0 : Int) ≤ (i : Int) + (m : Int) := by omega
  have hin : i ≤ n := by omega
  have htn : ((i : Int) + (m : Int)).toNat = i + m := by omega
  have hb2 : ¬ (c = i + m) := by omega
  have hb3 : (i : Int) ≤ (n : Int) + (m : Int) := by omega
  have hb4 : ¬ (c = i) := by omega
  have hcp1 : ∀ ty dc sc, (Builtin.copy_ #[60, 60] ty #[.slice (some ⟨b, off + (i + m) * 2, none⟩) (n + m - (i + m)) dc, .slice (some ⟨b, off + i * 2, none⟩) (n + m - i) sc]).run Try.prog w.drew = .ok (goInt (Nat.min (n + m - i) (n + m - (i + m)))) (w.drew.setCells b (off + (i + m) * 2) (cs.drop (i * 2))) := fun ty dc sc =>
    run_copy_rows w.drew _ _ ty 65 2 b (off + (i + m) * 2) (n + m - (i + m)) dc ⟨b, off + i * 2, none⟩ (n + m - i) sc (cs.drop (i * 2)) Try.underlying60 hsz (by rw [hdl]; simp only [Nat.min_def]; split <;> omega)
      (fun j v hj => by rw [Addr.add_lit, Nat.add_assoc]; exact hcs (i * 2 + j) v (by rwa [List.getElem?_drop] at hj))
      (fun j hj => by rw [Nat.add_assoc]; exact hsp _ (by omega)) (fun j hj => by rw [Nat.add_assoc]; exact hfz _ (by omega)) (fun v hv => h1c v (List.mem_of_mem_drop hv))
  obtain ⟨W1, hW1⟩ : ∃ W1, W1 = w.drew.setCells b (off + (i + m) * 2) (cs.drop (i * 2)) := ⟨_, rfl⟩
  have hsp1 : ∀ k, k < (n + m) * 2 → (W1.cell? ⟨b, off + k, none⟩).isSome = true := fun k hk => by
    rw [hW1]
    exact isSome_setCells b _ _ _ (fun j hj => by rw [Nat.add_assoc]; exact hsp _ (by omega)) _ (hsp k hk)
  have hcp2 : ∀ (W : World), (∀ x, W.cell? x = W1.cell? x) → (∀ x, W.frozen? x = W1.frozen? x) → ∀ ty dc, (Builtin.copy_ #[60, 60] ty #[.slice (some ⟨b, off + i * 2, none⟩) (n + m - i) dc, .slice (some ⟨vb, voff, none⟩) m vc]).run Try.prog W = .ok (goInt (Nat.min m (n + m - i))) (W.setCells b (off + i * 2) vs) := fun W hWc hWf ty dc =>
    run_copy_rows W _ _ ty 65 2 b (off + i * 2) (n + m - i) dc ⟨vb, voff, none⟩ m vc vs Try.underlying60 hsz (by rw [hvl]; simp only [Nat.min_def]; split <;> omega)
      (fun j v hj => by
        rw [Addr.add_lit, hWc, hW1, World.cell?_setCells_out b _ _ _ _ (fun h _ => absurd h hvb)]
        exact hvs j v hj)
      (fun j hj => by rw [hWc, Nat.add_assoc]; exact hsp1 _ (by omega)) (fun j hj => by rw [hWf, hW1, World.frozen?_setCells, Nat.add_assoc]; exact hfz _ (by omega)) h1v
  rw [← hW1] at hcp1
  go_enter Try.func108, Try.ntmps108
  go_wp2_with (simp only [hov])
  go_region_law_o (refine step_copy_runI rfl _ _ 60 60 rfl _ _ (by simp [Act.eval, Act.put]) (by simp [Act.eval, Act.put]) (hcp1 _ _ _) ?_)
  go_wp2_with (at_builtin; refine wpList_copy_runI _ rfl _ _ 60 60 rfl _ _ rfl rfl (hcp2 _ (fun _ => rfl) (fun _ => rfl) _ _) ?_)
  go_ret
  first | exact ⟨rfl, rfl⟩ | exact ⟨rfl, by rw [hW1]⟩

set_option maxHeartbeats 4000000 in
set_option maxRecDepth 100000 in
theorem ins_grow (b off n c i vb voff m vc : Nat) (cs vs : List Value) (w : World) (hi : i < n) (hm : 0 < m) (hnc : n ≤ c) (hroom : c < n + m) (hbig : (n + m) * 24 ≤ 140737488355328)
    (hcl : cs.length = n * 2) (hvl : vs.length = m * 2)
    (hcs : ∀ j v, cs[j]? = some v → w.cell? ⟨b, off + j, none⟩ = some v)
    (hvs : ∀ j v, vs[j]? = some v → w.cell? ⟨vb, voff + j, none⟩ = some v) (h1c : ∀ v ∈ cs, v.oneCell' = true) (h1v : ∀ v ∈ vs, v.oneCell' = true) :
    Calls Try.prog 108 #[.slice (some ⟨b, off, none⟩) n c, .int .i64 i, .slice (some ⟨vb, voff, none⟩) m vc] w fun e w' =>
      e = .returned (.slice (some ⟨w.heap.size, 0, none⟩) (n + m) (grownCap w (n + m) c 65)) ∧
      w' = (((w.alloc (.cells ((cs.take (i * 2)).toArray ++ zGs (n + m - i) ++ zGs (grownCap w (n + m) c 65 - (n + m))) 65)).drew.setCells w.heap.size (i * 2) vs).drew).setCells w.heap.size ((i + m) * 2) (cs.drop (i * 2)) := by
  have t0 := Try.underlying0; have a0 := Try.isAgg0; have z0 := Try.sizeOf0; have v0 := Try.zeroValue0; have t3 := Try.underlying3; have a3 := Try.isAgg3; have z3 := Try.sizeOf3; have v3 := Try.zeroValue3; have t4 := Try.underlying4; have a4 := Try.isAgg4; have z4 := Try.sizeOf4; have v4 := Try.zeroValue4; have t65 := Try.underlying65; have a65 := Try.isAgg65; have z65 := Try.sizeOf65; have v65 := Try.zeroValue65; have t60 := Try.underlying60; have a60 := Try.isAgg60; have z60 := Try.sizeOf60; have v60 := Try.zeroValue60
  have u0 := run_underlying Try.underlying0; have u3 := run_underlying Try.underlying3; have u4 := run_underlying Try.underlying4; have u65 := run_underlying Try.underlying65; have u60 := run_underlying Try.underlying60
  have mixed := mixed
  obtain ⟨i0, hi0, hz0, hzs, hzb⟩ : ∃ i0, Try.prog.info? 65 = some i0 ∧ i0.zero = some (Value.agg #[.string ⟨#[]⟩, .int .i64 0]) ∧ i0.size = 2 ∧ i0.bytes = 24 := ⟨_, rfl, by kernel_rfl, by kernel_rfl, by kernel_rfl⟩
  have hz1 : ¬ ((m : Int) = 0) := by omega
  have hz2 : ¬ ((i : Int) = (n : Int)) := by omega
  have hz3 : (c : Int) < (n : Int) + (m : Int) := by omega
  have hsz : (Try.prog.info? 65).map (·.size) = some 2 := by rw [hi0]; simp [hzs]
  have hbw : b < w.heap.size := block_lt_of_cell (hcs 0 _ (List.getElem?_eq_getElem (by omega)))
  have hvw : vb < w.heap.size := block_lt_of_cell (hvs 0 _ (List.getElem?_eq_getElem (by omega)))
  have hkk : (n : Int) + (m : Int) - (i : Int) = ((n + m - i : Nat) : Int) := by omega
  have hik : i + (n + m - i) = n + m := by omega
  have hold : (Builtin.firstCells i0.size i (.slice (some ⟨b, off, none⟩) i c)).run Try.prog w.drew = .ok (cs.take (i * 2)).toArray w.drew := by
    rw [hzs]
    exact run_firstCells_some w.drew 2 i ⟨b, off, none⟩ i c (cs.take (i * 2)) (by rw [List.length_take]; omega) (fun j v hj => by
      rw [Addr.add_lit]
      rw [List.getElem?_take] at hj
      split at hj
      · exact hcs j v hj
      · cases hj)
  have hrz : ∀ ty, (Builtin.append_ #[60, 3] ty #[.slice (some ⟨b, off, none⟩) i c, .int .i64 ((n : Int) + (m : Int) - (i : Int))]).run Try.prog w =
      .ok (.slice (some ⟨w.heap.size, 0, none⟩) (n + m) (grownCap w (n + m) c 65)) (w.drew.alloc (.cells ((cs.take (i * 2)).toArray ++ zGs (n + m - i) ++ zGs (grownCap w (n + m) c 65 - (n + m))) 65)) := fun ty => by
    have h := Lib.run_append_grow_zeros w 60 3 ty 65 i0 _ .i64 .i64 Try.underlying60 Try.underlying3 hi0 hz0 (some ⟨b, off, none⟩) i c (cs.take (i * 2)) hold (n + m - i) (by omega) (by omega) (by omega) (by omega) (by rw [hzb]; omega) (by rw [hzb, hik]; exact growslice_fits hroom hbig)
    rw [hik] at h
    rw [hkk]
    exact h
  have hzsz : ∀ k, (zGs k).size = k * 2 := fun k => by
    rw [zGs]; simp [Builtin.zeroCells, Value.cells]
  obtain ⟨G, hG⟩ : ∃ G, G = grownCap w (n + m) c 65 := ⟨_, rfl⟩
  obtain ⟨ROW, hROW⟩ : ∃ ROW : Array Value, ROW = (cs.take (i * 2)).toArray ++ zGs (n + m - i) ++ zGs (G - (n + m)) := ⟨_, rfl⟩
  rw [← hG] at hrz ⊢
  rw [← hROW] at hrz ⊢
  have hRl : (n + m) * 2 ≤ ROW.size := by
    rw [hROW, Array.size_append, Array.size_append, hzsz, hzsz]
    show _ ≤ (cs.take (i * 2)).length + _ + _
    rw [List.length_take]; omega
  obtain ⟨W1, hW1⟩ : ∃ W1, W1 = w.drew.alloc (.cells ROW 65) := ⟨_, rfl⟩
  rw [← hW1] at hrz
  have hN : ∀ j, j < (n + m) * 2 → (W1.cell? ⟨w.heap.size, j, none⟩).isSome = true := fun j hj => by
    rw [hW1, World.cell?_alloc_at (w := w.drew) ROW _ w.heap.size j rfl, Array.getElem?_eq_getElem (by omega)]; rfl
  have hNf : ∀ j, W1.frozen? ⟨w.heap.size, j, none⟩ = false := fun j => by rw [hW1]; exact World.frozen?_alloc_at (w := w.drew) ROW _ w.heap.size j rfl
  have hOb : ∀ j v, w.cell? ⟨b, j, none⟩ = some v → W1.cell? ⟨b, j, none⟩ = some v := fun j v h => by rw [hW1, World.cell?_alloc_past (w := w.drew) _ b j hbw]; exact h
  have hOv : ∀ j v, w.cell? ⟨vb, j, none⟩ = some v → W1.cell? ⟨vb, j, none⟩ = some v := fun j v h => by rw [hW1, World.cell?_alloc_past (w := w.drew) _ vb j hvw]; exact h
  have hcpA : ∀ (W : World), (∀ x, W.cell? x = W1.cell? x) → (∀ x, W.frozen? x = W1.frozen? x) → ∀ ty dc, (Builtin.copy_ #[60, 60] ty #[.slice (some ⟨w.heap.size, i * 2, none⟩) (n + m - i) dc, .slice (some ⟨vb, voff, none⟩) m vc]).run Try.prog W = .ok (goInt (Nat.min m (n + m - i))) (W.setCells w.heap.size (i * 2) vs) := fun W hWc hWf ty dc =>
    run_copy_rows W _ _ ty 65 2 w.heap.size (i * 2) (n + m - i) dc ⟨vb, voff, none⟩ m vc vs Try.underlying60 hsz (by rw [hvl]; simp only [Nat.min_def]; split <;> omega)
      (fun j v hj => by rw [Addr.add_lit, hWc]; exact hOv _ v (hvs j v hj))
      (fun j hj => by rw [hWc]; exact hN _ (by omega)) (fun j hj => by rw [hWf]; exact hNf _) h1v
  have hGn : n + m ≤ G := by rw [hG]; exact grownCap_ge w _ _ _
  have hG63 : G ≤ 9223372036854775807 := by
    have := grownCap_le_maxLen w (n + m) c 65 (by unfold maxLen; omega)
    rw [← hG] at this
    unfold maxLen at this
    omega
  have hGi : ¬ (G = i) := by omega
  have hGim : ¬ (G = i + m) := by omega
  have hci : ¬ (c = i) := by omega
  have hbN : b ≠ w.heap.size := by omega
  have hdl : (cs.drop (i * 2)).length = (n - i) * 2 := by rw [List.length_drop, hcl]; omega
  have hcpB : ∀ (W : World), (∀ x, W.cell? x = (W1.setCells w.heap.size (i * 2) vs).cell? x) → (∀ x, W.frozen? x = (W1.setCells w.heap.size (i * 2) vs).frozen? x) → ∀ ty dc sc, (Builtin.copy_ #[60, 60] ty #[.slice (some ⟨w.heap.size, (i + m) * 2, none⟩) (n + m - (i + m)) dc, .slice (some ⟨b, off + i * 2, none⟩) (n - i) sc]).run Try.prog W = .ok (goInt (Nat.min (n - i) (n + m - (i + m)))) (W.setCells w.heap.size ((i + m) * 2) (cs.drop (i * 2))) := fun W hWc hWf ty dc sc =>
    run_copy_rows W _ _ ty 65 2 w.heap.size ((i + m) * 2) (n + m - (i + m)) dc ⟨b, off + i * 2, none⟩ (n - i) sc (cs.drop (i * 2)) Try.underlying60 hsz (by rw [hdl]; simp only [Nat.min_def]; split <;> omega)
      (fun j v hj => by
        rw [Addr.add_lit, hWc, World.cell?_setCells_out _ _ _ _ _ (fun h _ => absurd h hbN), Nat.add_assoc]
        exact hOb _ v (hcs (i * 2 + j) v (by rwa [List.getElem?_drop] at hj)))
      (fun j hj => by rw [hWc]; exact isSome_setCells _ _ _ _ (fun t ht => hN _ (by omega)) _ (hN _ (by omega)))
      (fun j hj => by rw [hWf, World.frozen?_setCells]; exact hNf _) (fun v hv => h1c v (List.mem_of_mem_drop hv))
  subst hW1
  have hE1 : ∀ x, ((w.alloc (.cells ROW 65)).drew).cell? x = (w.drew.alloc (.cells ROW 65)).cell? x := fun x => rfl
  have hE2 : ∀ x, ((w.alloc (.cells ROW 65)).drew).frozen? x = (w.drew.alloc (.cells ROW 65)).frozen? x := fun x => rfl
  have hF1 : ∀ x, (((w.alloc (.cells ROW 65)).drew.setCells w.heap.size (i * 2) vs).drew).cell? x = ((w.drew.alloc (.cells ROW 65)).setCells w.heap.size (i * 2) vs).cell? x := fun x => rfl
  have hF2 : ∀ x, (((w.alloc (.cells ROW 65)).drew.setCells w.heap.size (i * 2) vs).drew).frozen? x = ((w.drew.alloc (.cells ROW 65)).setCells w.heap.size (i * 2) vs).frozen? x := fun x => rfl
  have hw1 : IntKind.i64.wrap ((i : Int) + (m : Int)) = (i : Int) + (m : Int) := by rw [IntKind.wrap_i64]; omega
  have hb1 : (0 : Int) ≤ (i : Int) + (m : Int) := by omega
  have hin : i ≤ n := by omega
  have htn : ((i : Int) + (m : Int)).toNat = i + m := by omega
  have hb3 : (i : Int) ≤ (n : Int) := by omega
  clear hkk hik hold hROW hG hRl hzsz
  go_enter Try.func108, Try.ntmps108
  go_wp2_with (first
    | (at_builtin; refine Lib.wpList_append_run _ rfl _ _ _ _ rfl _ _ rfl rfl _ _ (hrz _) ?_)
    | (at_builtin; refine wpList_copy_runI _ rfl _ _ 60 60 rfl _ _ rfl rfl (hcpA _ hE1 hE2 _ _) ?_)
    | (at_builtin; refine wpList_copy_runI _ rfl _ _ 60 60 rfl _ _ rfl rfl (hcpB _ (fun _ => rfl) (fun _ => rfl) _ _ _) ?_))
  go_region_law_o (refine step_copy_runI rfl _ _ 60 60 rfl (.slice (some ⟨w.heap.size, (i + m) * 2, none⟩) (n + m - (i + m)) (G - (i + m))) (.slice (some ⟨b, off + i * 2, none⟩) (n - i) (c - i)) (by simp [Act.eval, Act.put]) (by simp [Act.eval, Act.put]) (hcpB _ hF1 hF2 3 (G - (i + m)) (c - i)) ?_)
  go_wp2
  go_ret
  exact ⟨rfl, rfl⟩
end Go.Proofs.Ytdmcmfdmnlckdaa.C10
/- Chapter 10: slices.Insert of one grant, as a contract with own rows. -/
namespace Go.Proofs.Ytdmcmfdmnlckdaa.C10
open Go Go.Proofs Go.Proofs.Ytdmcmfdmnlckdaa.Ab
set_option linter.unusedSimpArgs false
set_option linter.unusedVariables false

theorem setCells_rest (b : Nat) : ∀ (vs : List Value) (o : Nat) (w : World), (∀ k, k ≠ b → (w.setCells b o vs).heap[k]? = w.heap[k]?) ∧ (w.setCells b o vs).heap.size = w.heap.size ∧
    (w.setCells b o vs).os = w.os ∧ (w.setCells b o vs).tape = w.tape ∧ (w.setCells b o vs).output = w.output ∧ (w.setCells b o vs).drawn = w.drawn
  | [], _, w => ⟨fun _ _ => rfl, rfl, rfl, rfl, rfl, rfl⟩
  | v :: r, o, w => by
    obtain ⟨h1, h2, h3, h4, h5, h6⟩ := setCells_rest b r (o + 1) (w.setCell ⟨b, o, none⟩ v)
    rw [World.setCells]
    refine ⟨fun k hk => ?_, by rw [h2]; simp [World.setCell], h3, h4, h5, h6⟩
    rw [h1 k hk, World.setCell, Array.getElem?_modify, if_neg (Ne.symm hk)]
theorem setCells_row (b : Nat) : ∀ (vs : List Value) (o : Nat) (w : World) (cs : Array Value) (ty : TypeId) (fr : Nat × Nat), w.heap[b]? = some (.cells cs ty fr) →
    ∃ cs' : Array Value, (w.setCells b o vs).heap[b]? = some (.cells cs' ty fr) ∧ cs'.size = cs.size ∧ ∀ j, j < cs.size → cs'[j]? = if o ≤ j ∧ j < o + vs.length then vs[j - o]? else cs[j]?
  | [], o, w, cs, ty, fr, h => ⟨cs, h, rfl, fun j _ => by rw [if_neg (by simp)]⟩
  | v :: r, o, w, cs, ty, fr, h => by
    obtain ⟨c2, h1, h2, h3⟩ := setCells_row b r (o + 1) (w.setCell ⟨b, o, none⟩ v) (cs.setIfInBounds o v) ty fr (by rw [World.setCell, Array.getElem?_modify, if_pos rfl, h]; rfl)
    rw [Array.size_setIfInBounds] at h2 h3
    refine ⟨c2, by rw [World.setCells]; exact h1, h2, fun j hj => ?_⟩
    rw [h3 j hj, List.length_cons, Array.getElem?_setIfInBounds]
    by_cases q : j = o
    · subst q
      rw [if_neg (by omega), if_pos rfl, if_pos hj, if_pos (by omega), Nat.sub_self]; rfl
    · by_cases q2 : o + 1 ≤ j ∧ j < o + 1 + r.length
      · rw [if_pos q2, if_pos (by omega), show j - o = (j - (o + 1)) + 1 by omega]; rfl
      · rw [if_neg q2, if_neg (fun e => q e.symm), if_neg (by omega)]

theorem alloc_at (w : World) (o : Go.Obj) : (w.drew.alloc o).heap[w.heap.size]? = some o := by
  show (w.heap.push o)[w.heap.size]? = _
  rw [Array.getElem?_push, if_pos rfl]
theorem alloc_old (w : World) (o : Go.Obj) {k : Nat} (h : k < w.heap.size) : (w.drew.alloc o).heap[k]? = w.heap[k]? := by
  show (w.heap.push o)[k]? = _
  rw [Array.getElem?_push, if_neg (by omega)]
theorem alloc_size (w : World) (o : Go.Obj) : w.heap.size ≤ (w.drew.alloc o).heap.size := by
  show _ ≤ (w.heap.push o).size
  rw [Array.size_push]; omega


def fG (g : Grant) : List Value := [.string g.user, .int .i64 g.auth]
def fl (l : List Grant) : List Value := l.flatMap fG
theorem fl_cons (g : Grant) (l : List Grant) : fl (g :: l) = fG g ++ fl l := by rw [fl, fl, List.flatMap_cons]
theorem fl_append (a b : List Grant) : fl (a ++ b) = fl a ++ fl b := by rw [fl, List.flatMap_append]; rfl
theorem fl_len : ∀ l : List Grant, (fl l).length = l.length * 2
  | [] => rfl
  | g :: l => by rw [fl_cons, List.length_append, fl_len l, List.length_cons]; show 2 + _ = _; omega
theorem fl_get : ∀ (l : List Grant) (j : Nat), (fl l)[j]? = (l[j / 2]?).bind fun g => (fG g)[j % 2]?
  | [], j => by simp [fl]
  | g :: l, 0 => rfl
  | g :: l, 1 => rfl
  | g :: l, j + 2 => by
    rw [fl_cons, List.getElem?_append_right (by show 2 ≤ j + 2; omega)]
    show (fl l)[j + 2 - 2]? = _
    rw [Nat.add_sub_cancel, fl_get l j, show (j + 2) / 2 = j / 2 + 1 by omega, show (j + 2) % 2 = j % 2 by omega, List.getElem?_cons_succ]
theorem fl_one (l : List Grant) : ∀ v ∈ fl l, v.oneCell' = true := fun v hv => by
  obtain ⟨g, _, h⟩ := List.mem_flatMap.1 hv
  rw [fG] at h
  simp only [List.mem_cons, List.not_mem_nil, or_false] at h
  rcases h with rfl | rfl <;> rfl
theorem fl_take (l : List Grant) (k : Nat) : fl (l.take k) = (fl l).take (k * 2) := by
  by_cases h : k ≤ l.length
  · have e : fl l = fl (l.take k) ++ fl (l.drop k) := by rw [← fl_append, List.take_append_drop]
    rw [e, List.take_left' (by rw [fl_len, List.length_take]; omega)]
  · rw [List.take_of_length_le (by omega), List.take_of_length_le (by rw [fl_len]; omega)]
theorem fl_drop (l : List Grant) (k : Nat) : fl (l.drop k) = (fl l).drop (k * 2) := by
  by_cases h : k ≤ l.length
  · have e : fl l = fl (l.take k) ++ fl (l.drop k) := by rw [← fl_append, List.take_append_drop]
    rw [e, List.drop_left' (by rw [fl_len, List.length_take]; omega)]
  · rw [List.drop_eq_nil_of_le (by omega), List.drop_eq_nil_of_le (by rw [fl_len]; omega)]; rfl
def insG (l : List Grant) (k : Nat) (x : Grant) : List Grant := l.take k ++ x :: l.drop k
theorem insG_len {l : List Grant} {k : Nat} {s : Grant} (h : k ≤ l.length) : (insG l k s).length = l.length + 1 := by
  rw [insG, List.length_append, List.length_cons, List.length_take, List.length_drop]; omega
theorem fl_ins (l : List Grant) (k : Nat) (x : Grant) : fl (insG l k x) = (fl l).take (k * 2) ++ (fG x ++ (fl l).drop (k * 2)) := by
  rw [insG, fl_append, fl_cons, fl_take, fl_drop]
theorem insF_get {l : List Grant} {k : Nat} {x : Grant} (h : k ≤ l.length) (j : Nat) : (fl (insG l k x))[j]? = if j < k * 2 then (fl l)[j]? else if j < k * 2 + 2 then (fG x)[j - k * 2]? else (fl l)[j - 2]? := by
  have hl : ((fl l).take (k * 2)).length = k * 2 := by rw [List.length_take, fl_len]; omega
  rw [fl_ins]
  by_cases q : j < k * 2
  · rw [if_pos q, List.getElem?_append_left (by omega), List.getElem?_take, if_pos q]
  · rw [if_neg q, List.getElem?_append_right (by omega), hl]
    by_cases q2 : j < k * 2 + 2
    · rw [if_pos q2, List.getElem?_append_left (by show j - k * 2 < 2; omega)]
    · rw [if_neg q2, List.getElem?_append_right (by show 2 ≤ j - k * 2; omega), List.getElem?_drop]
      show (fl l)[k * 2 + (j - k * 2 - 2)]? = _
      rw [show k * 2 + (j - k * 2 - 2) = j - 2 by omega]

set_option maxHeartbeats 8000000 in
theorem InsertGM (l : List Grant) (k : Nat) (s : Grant) (hk : k ≤ l.length) (hl : l.length ≤ 1000) :
    AnsM Try.prog 108 3 [.obj 1 65 2 false true (l.map encGrant), .obj 1 65 2 false true ([s].map encGrant)] [.ref 3 1, .int .i64 (k : Int), .ref 4 1] (.ref 3 2) [(3, .obj 2 65 2 false true ((insG l k s).map encGrant))] := by
  refine ⟨by kernel_rfl, fun w G vs hsz hvs hprlt hobj hsep => ?_⟩
  have hO := hobj 3
  have hV := hobj 4
  obtain ⟨hcnt, hpu, hes, g, g1, g2, g3, g4, g5⟩ : ObRel G w (fun _ => True) 3 (.obj 1 65 2 false true (l.map encGrant)) := hO
  obtain ⟨-, -, -, q, q1, q2, q3, q4, q5⟩ : ObRel G w (fun _ => True) 4 (.obj 1 65 2 false true ([s].map encGrant)) := hV
  rw [List.length_map] at g3 q3
  have hoth : ∀ t, ¬ t = 3 → ∀ o, G.ob t = some o → t = 4 := fun t h3 o ho => by
    refine Classical.byContradiction fun h4 => ?_
    have h := hobj t
    have hg : (startM 3 [.ref 3 1, .int .i64 (k : Int), .ref 4 1] [.obj 1 65 2 false true (l.map encGrant), .obj 1 65 2 false true ([s].map encGrant)]).go t = .any := by
      match t, h3, h4 with
      | 0, _, _ => rfl
      | 1, _, _ => rfl
      | 2, _, _ => rfl
      | 3, h3, _ => exact absurd rfl h3
      | 4, _, h4 => exact absurd rfl h4
      | t + 5, _, _ => rfl
    rw [hg] at h
    rw [h.2] at ho; cases ho
  have hv : ∃ v0 v1 v2, vs = #[v0, v1, v2] := by
    match vs, hsz with
    | ⟨[x, y, z]⟩, _ => exact ⟨x, y, z, rfl⟩
  obtain ⟨v0, v1, v2, rfl⟩ := hv
  have r0 := hvs 0 _ _ rfl rfl
  have r1 := hvs 1 _ _ rfl rfl
  have r2 := hvs 2 _ _ rfl rfl
  cases r0 with
  | ref _ _ _ a1 a2 a3 =>
  cases r1 with
  | int _ _ =>
  cases r2 with
  | ref _ _ _ c1 c2 c3 =>
  rcases q5 with ⟨_, h5⟩ | ⟨vb, cv, y1, _, y3, y4, y5, y6, y7, y8, y9⟩
  · cases h5
  have hv2 := c3 q q1 q2
  rw [q3, y1] at hv2
  subst hv2
  have hv0 := a3 g g1 g2
  rw [g3] at hv0
  -- cells of a row of grants
  have rowAt : ∀ (m : List Grant) (cs : Array Value), (∀ (i j : Nat) (x : List AV) (a : AV), (m.map encGrant)[i]? = some x → x[j]? = some a → ∃ v, cs[i * 2 + j]? = some v ∧ VRel G w a v) → ∀ (j : Nat) (v : Value), (fl m)[j]? = some v → cs[j]? = some v := fun m cs h j v hj => by
    rw [fl_get] at hj
    cases hx : m[j / 2]? with
    | none => rw [hx] at hj; cases hj
    | some y =>
      rw [hx] at hj
      have hj' : (fG y)[j % 2]? = some v := hj
      have hrow : (m.map encGrant)[j / 2]? = some (encGrant y) := by rw [List.getElem?_map, hx]; rfl
      have hm2 : j % 2 < 2 := Nat.mod_lt _ (by decide)
      have hjd : j / 2 * 2 + j % 2 = j := by omega
      rcases Nat.lt_or_ge (j % 2) 1 with z | z
      · have e0 : j % 2 = 0 := by omega
        obtain ⟨u, hu, hr⟩ := h (j / 2) 0 _ (.str y.user) hrow rfl
        cases hr
        rw [e0] at hj' hjd
        cases hj'
        rwa [hjd] at hu
      · have e0 : j % 2 = 1 := by omega
        obtain ⟨u, hu, hr⟩ := h (j / 2) 1 _ (.int .i64 y.auth) hrow rfl
        cases hr
        rw [e0] at hj' hjd
        cases hj'
        rwa [hjd] at hu
  have hvfl : fl [s] = fG s := by rw [fl_cons]; show fG s ++ [] = _; rw [List.append_nil]
  have hvs' : ∀ (j : Nat) (v : Value), (fG s)[j]? = some v → w.cell? ⟨vb, 0 + j, none⟩ = some v := fun j v hj => by
    rw [Nat.zero_add, cell_of_row _ _ _ _ _ _ y3]
    exact rowAt [s] cv y8 j v (by rw [hvfl]; exact hj)
  have h1v : ∀ v ∈ fG s, v.oneCell' = true := by rw [← hvfl]; exact fl_one _
  have h1c : ∀ v ∈ fl l, v.oneCell' = true := fl_one l
  have hvl := fl_len l
  -- what comes of it
  have fin : ∀ (b' cap' : Nat) (cs2 : Array Value) (w' : World), (w.heap.size = b' ∨ (g.base = some ⟨b', 0, none⟩ ∧ 0 < g.cap ∧ b' < w.heap.size ∧ ∀ o, ¬ G.pr b' o)) →
      w'.heap[b']? = some (.cells cs2 65 (0, 0)) → (∀ k, k ≠ b' → k < w.heap.size → w'.heap[k]? = w.heap[k]?) → w.heap.size ≤ w'.heap.size → w'.os = w.os → w'.tape = w.tape → w'.output = w.output → w.drawn ≤ w'.drawn →
      l.length + 1 ≤ cap' → cap' ≤ maxLen → cs2.size = cap' * 2 → (∀ (j : Nat) (v : Value), (fl (insG l k s))[j]? = some v → cs2[j]? = some v) →
      ∃ v G', Ending.returned (.slice (some ⟨b', 0, none⟩) (l.length + 1) cap') = .returned v ∧ VRel G' w' (.ref 3 2) v ∧ GLe G w G' w' ∧
      (∀ b o, b < w.heap.size → ¬ blksOf G b → G'.pr b o → G.pr b o) ∧ (∀ b o, G'.pr b o → b < w'.heap.size) ∧ BelowX ⟨w, blksOf G, G⟩ w' ∧
      (∀ p ∈ [(3, AV.obj 2 65 2 false true ((insG l k s).map encGrant))], ObRel G' w' (Bs.own ⟨w, blksOf G, G⟩) p.1 p.2) ∧ SepG G' := by
    intro b' cap' cs2 w' hb hrow hother hsize e1 e2 e3 e4 hcap hmax hcs hcell
    have hnopr : ∀ o, ¬ G.pr b' o := fun o hp => by
      rcases hb with hb | hb
      · have := hprlt b' o hp; omega
      · exact hb.2.2.2 o hp
    have hown : Bs.own ⟨w, blksOf G, G⟩ b' := by
      rcases hb with hb | hb
      · exact .inl (by show w.heap.size ≤ b'; omega)
      · exact .inr ⟨3, g, g1, hb.2.1, hb.1⟩
    have hvb : ¬ vb = b' := fun e => by
      rcases hb with hb | hb
      · have : vb < w.heap.size := (Array.getElem?_eq_some_iff.1 y3).1
        omega
      · exact hsep 3 4 g q (by decide) g1 q1 hb.2.1 (by omega) (by rw [hb.1, y1, e])
    refine ⟨_, ⟨G.pr, fun t => if t = 3 then some ⟨2, some ⟨b', 0, none⟩, l.length + 1, cap', 2⟩ else G.ob t, fun t => if t = 3 then 2 else G.cnt t⟩, rfl, ?_, ⟨fun _ _ h => h, fun t => ?_, fun t o ho => ?_, fun b o v hp hc => ?_⟩,
      fun b o _ _ hp => hp, fun b o hp => Nat.lt_of_lt_of_le (hprlt b o hp) hsize, ⟨e1, e2, e3, e4, hsize, fun k hk => ?_⟩, fun p hp => ?_, ?_⟩
    · refine .ref _ _ _ (by simp) rfl fun o ho _ => ?_
      simp only [if_pos] at ho
      cases ho
      rfl
    · show G.cnt t ≤ if t = 3 then 2 else G.cnt t
      split
      · rename_i h; rw [h, hcnt]; decide
      · exact Nat.le_refl _
    · have ho' : (if t = 3 then some ⟨2, some ⟨b', 0, none⟩, l.length + 1, cap', 2⟩ else G.ob t) = some o := ho
      by_cases h : t = 3
      · rw [if_pos h] at ho'; cases ho'
        exact .inl (by rw [h, hcnt]; show 1 < 2; decide)
      · rw [if_neg h] at ho'; exact .inr ho'
    · have hbb : b ≠ b' := fun e => hnopr o (e ▸ hp)
      have := hother b hbb (hprlt b o hp)
      simp only [World.cell?, this] at hc ⊢
      exact hc
    · refine hother k (fun e => hk (e ▸ hown)) (Bs.lt_of hk)
    · rw [List.mem_singleton] at hp
      subst hp
      refine ⟨by simp, fun _ x hx a ha => ?_, fun x hx => ?_, ⟨2, some ⟨b', 0, none⟩, l.length + 1, cap', 2⟩, by simp, rfl, by rw [List.length_map, insG_len hk], rfl, .inr ⟨b', cs2, rfl, hown, hrow, by rw [List.length_map, insG_len hk]; exact hcap, hmax, by rw [hcs], by show 0 < cap'; omega, fun i j x a hx ha => ?_, fun o ho => absurd ho (hnopr o)⟩⟩
      · obtain ⟨y, _, rfl⟩ := List.mem_map.1 hx
        rw [encGrant] at ha
        simp only [List.mem_cons, List.not_mem_nil, or_false] at ha
        rcases ha with rfl | rfl <;> rfl
      · obtain ⟨y, _, rfl⟩ := List.mem_map.1 hx
        rfl
      · rw [List.getElem?_map] at hx
        cases hi : (insG l k s)[i]? with
        | none => rw [hi] at hx; cases hx
        | some y =>
          rw [hi] at hx; cases hx
          have hj2 : j < 2 := by
            have := (List.getElem?_eq_some_iff.1 ha).1
            simpa [encGrant] using this
          have hg : ∀ v, (fG y)[j]? = some v → cs2[i * 2 + j]? = some v := fun v hv => hcell _ v (by rw [fl_get, show (i * 2 + j) / 2 = i by omega, show (i * 2 + j) % 2 = j by omega, hi]; exact hv)
          rcases Nat.lt_or_ge j 1 with z | z
          · have e0 : j = 0 := by omega
            subst e0
            cases ha
            exact ⟨_, hg _ rfl, .str _⟩
          · have e0 : j = 1 := by omega
            subst e0
            cases ha
            exact ⟨_, hg _ rfl, .int _ _⟩
    · have hsp : ∀ t o, ¬ t = 3 → G.ob t = some o → ¬ some ⟨b', 0, none⟩ = o.base := fun t o h3 ho e => by
        have := hoth t h3 o ho
        subst this
        rw [q1] at ho; cases ho
        rw [y1] at e
        cases e; exact hvb rfl
      intro t t' o o' hne ho ho' hc hc'
      have ho1 : (if t = 3 then some ⟨2, some ⟨b', 0, none⟩, l.length + 1, cap', 2⟩ else G.ob t) = some o := ho
      have ho2 : (if t' = 3 then some ⟨2, some ⟨b', 0, none⟩, l.length + 1, cap', 2⟩ else G.ob t') = some o' := ho'
      by_cases h : t = 3
      · rw [if_pos h] at ho1; cases ho1
        have h' : ¬ t' = 3 := fun e => hne (h.trans e.symm)
        rw [if_neg h'] at ho2
        exact hsp t' o' h' ho2
      · rw [if_neg h] at ho1
        by_cases h' : t' = 3
        · rw [if_pos h'] at ho2; cases ho2
          exact fun e => hsp t o h ho1 e.symm
        · rw [if_neg h'] at ho2
          exact hsep t t' o o' hne ho1 ho2 hc hc'
  have hmx : l.length + 1 ≤ maxLen := by unfold maxLen; omega
  have hvlt : vb < w.heap.size := (Array.getElem?_eq_some_iff.1 y3).1
  have hil : (fl (insG l k s)).length = (l.length + 1) * 2 := by rw [fl_len, insG_len hk]
  have hins : ∀ (j : Nat) (v : Value), (fl (insG l k s))[j]? = some v → j < (l.length + 1) * 2 := fun j v hx => by
    have := (List.getElem?_eq_some_iff.1 hx).1
    rwa [hil] at this
  have hzs : ∀ n, (zGs n).size = n * 2 := fun n => by rw [zGs]; simp [Builtin.zeroCells, Value.cells]
  rcases g5 with ⟨h0, h5⟩ | ⟨blk, cs, k1, _, k3, k4, k5, k6, k7, k8, k9⟩
  · -- no row at all
    have hn : l = [] := List.map_eq_nil_iff.1 h5
    subst hn
    have hk0 : k = 0 := by simpa using hk
    subst hk0
    rw [h0] at hv0
    subst hv0
    have h := ins_end_grow g.base 0 0 vb 0 1 q.cap [] (fG s) w (by decide) (Nat.le_refl _) (by decide) (by decide) rfl rfl (fun _ => rfl) (fun a _ j v hj => by simp at hj) hvs' h1v
    refine Calls.mono h fun e w' ⟨he, hw⟩ => ?_
    subst he hw
    have hge := grownCap_ge w (0 + 1) 0 65
    refine fin w.heap.size _ _ _ (.inl rfl) (alloc_at w _) (fun k hk hlt => alloc_old w _ hlt) (alloc_size w _) rfl rfl rfl (Nat.le_succ _) hge (grownCap_le_maxLen w _ _ _ (by decide)) ?_ fun j x hx => ?_
    · rw [Array.size_append, hzs]
      show 2 + (grownCap w (0 + 1) 0 65 - (0 + 1)) * 2 = grownCap w (0 + 1) 0 65 * 2
      omega
    · have hj := hins j x hx
      have hj2 : j < 2 := hj
      rw [Array.getElem?_append_left (by show j < 2; exact hj2), List.getElem?_toArray, List.nil_append]
      rw [show fl (insG [] 0 s) = fG s from hvfl] at hx
      exact hx
  rw [k1] at hv0
  subst hv0
  have hblk : blk < w.heap.size := (Array.getElem?_eq_some_iff.1 k3).1
  have hvb : vb ≠ blk := fun e => hsep 3 4 g q (by decide) g1 q1 k7 (by omega) (by rw [k1, y1, e])
  have hbk : w.heap.size = blk ∨ (g.base = some ⟨blk, 0, none⟩ ∧ 0 < g.cap ∧ blk < w.heap.size ∧ ∀ o, ¬ G.pr blk o) := .inr ⟨k1, k7, hblk, fun o hp => absurd (k9 o hp).1 (by decide)⟩
  rw [List.length_map] at k4
  have hcsj := rowAt l cs k8
  have hcs : ∀ (j : Nat) (v : Value), (fl l)[j]? = some v → w.cell? ⟨blk, 0 + j, none⟩ = some v := fun j v hj => by
    rw [Nat.zero_add, cell_of_row _ _ _ _ _ _ k3]; exact hcsj j v hj
  have hc63 : g.cap ≤ 9223372036854775807 := by unfold maxLen at k5; omega
  have hsp : ∀ j, j < g.cap * 2 → (w.cell? ⟨blk, 0 + j, none⟩).isSome = true := fun j hj => by
    rw [Nat.zero_add, cell_of_row _ _ _ _ _ _ k3, Array.getElem?_eq_getElem (by omega)]; rfl
  have hfz : ∀ j, w.frozen? ⟨blk, j, none⟩ = false := fun j => frozen_of_row w blk _ cs 65 k3
  by_cases hr : l.length + 1 ≤ g.cap
  · by_cases hkl : k = l.length
    · subst hkl
      have h := ins_end_room blk 0 l.length g.cap vb 0 1 q.cap (fG s) w (by decide) hr hc63 rfl (fun j hj => by rw [Nat.add_assoc]; exact hsp (l.length * 2 + j) (by omega)) (fun j hj => hfz _) hvs' h1v
      refine Calls.mono h fun e w' ⟨he, hw⟩ => ?_
      subst he hw
      obtain ⟨c1, d1, d2, d3⟩ := setCells_row blk (fG s) (0 + l.length * 2) w cs 65 (0, 0) k3
      obtain ⟨m1, m2, m3, m4, m5, m6⟩ := setCells_rest blk (fG s) (0 + l.length * 2) w
      refine fin blk g.cap c1 _ hbk d1 (fun k hk _ => m1 k hk) (Nat.le_of_eq m2.symm) m3 m4 m5 (Nat.le_of_eq m6.symm) hr k5 (by rw [d2, k6]) fun j x hx => ?_
      have hj := hins j x hx
      rw [d3 j (by omega)]
      rw [insF_get (Nat.le_refl _)] at hx
      by_cases e1 : j < l.length * 2
      · rw [if_pos e1] at hx
        rw [if_neg (by omega)]; exact hcsj j x hx
      · rw [if_neg e1, if_pos (by omega)] at hx
        rw [if_pos ⟨by omega, by show _ < 0 + l.length * 2 + 2; omega⟩, Nat.zero_add]; exact hx
    · have h := ins_shift blk 0 l.length g.cap k vb 0 1 q.cap (fl l) (fG s) w (by omega) (by decide) hr hc63 hvb hvl rfl hcs (fun j hj => hsp j (by omega)) (fun j _ => hfz _) hvs' h1c h1v
        65 65 cv.size cs.size (by simp [World.shape?, y3]) (by simp [World.shape?, k3]) (by omega) (frozen_of_row w vb _ cv 65 y3) (frozen_of_row w vb _ cv 65 y3)
      refine Calls.mono h fun e w' ⟨he, hw⟩ => ?_
      subst he hw
      obtain ⟨c1, d1, d2, d3⟩ := setCells_row blk ((fl l).drop (k * 2)) (0 + (k + 1) * 2) w.drew cs 65 (0, 0) k3
      obtain ⟨m1, m2, m3, m4, m5, m6⟩ := setCells_rest blk ((fl l).drop (k * 2)) (0 + (k + 1) * 2) w.drew
      obtain ⟨c2, f1, f2, f3⟩ := setCells_row blk (fG s) (0 + k * 2) _ c1 65 (0, 0) d1
      obtain ⟨n1, n2, n3, n4, n5, n6⟩ := setCells_rest blk (fG s) (0 + k * 2) (w.drew.setCells blk (0 + (k + 1) * 2) ((fl l).drop (k * 2)))
      refine fin blk g.cap c2 _ hbk f1 (fun k hk _ => (n1 k hk).trans (m1 k hk)) (Nat.le_of_eq (n2.trans m2).symm) (n3.trans m3) (n4.trans m4) (n5.trans m5) (by rw [n6, m6]; exact Nat.le_succ _) hr k5 (by rw [f2, d2, k6]) fun j x hx => ?_
      have hj := hins j x hx
      have hfg : (fG s).length = 2 := rfl
      rw [f3 j (by omega), hfg]
      rw [insF_get hk] at hx
      by_cases e1 : j < k * 2
      · rw [if_pos e1] at hx
        rw [if_neg (by omega), d3 j (by omega), if_neg (by omega)]; exact hcsj j x hx
      · rw [if_neg e1] at hx
        by_cases e2 : j < k * 2 + 2
        · rw [if_pos e2] at hx
          rw [if_pos ⟨by omega, by omega⟩, Nat.zero_add]; exact hx
        · rw [if_neg e2] at hx
          rw [if_neg (by omega), d3 j (by omega), if_pos ⟨by omega, by rw [List.length_drop, hvl]; omega⟩, List.getElem?_drop, show k * 2 + (j - (0 + (k + 1) * 2)) = j - 2 by omega]; exact hx
  · by_cases hkl : k = l.length
    · subst hkl
      have h := ins_end_grow (some ⟨blk, 0, none⟩) l.length g.cap vb 0 1 q.cap (fl l) (fG s) w (by decide) k4 (by omega) (by omega) hvl rfl (fun h => by cases h) (fun a ha j v hj => by
        cases ha
        rw [Addr.add_lit]; exact hcs j v hj) hvs' h1v
      refine Calls.mono h fun e w' ⟨he, hw⟩ => ?_
      subst he hw
      have hge := grownCap_ge w (l.length + 1) g.cap 65
      refine fin w.heap.size _ _ _ (.inl rfl) (alloc_at w _) (fun k hk hlt => alloc_old w _ hlt) (alloc_size w _) rfl rfl rfl (Nat.le_succ _) hge (grownCap_le_maxLen w _ _ _ hmx) ?_ fun j x hx => ?_
      · rw [Array.size_append, hzs]
        show (fl l ++ fG s).length + (grownCap w (l.length + 1) g.cap 65 - (l.length + 1)) * 2 = grownCap w (l.length + 1) g.cap 65 * 2
        rw [List.length_append, hvl, show (fG s).length = 2 from rfl]
        omega
      · have hj := hins j x hx
        rw [insF_get (Nat.le_refl _)] at hx
        rw [Array.getElem?_append_left (by show j < (fl l ++ fG s).length; rw [List.length_append, hvl, show (fG s).length = 2 from rfl]; omega), List.getElem?_toArray]
        by_cases e1 : j < l.length * 2
        · rw [if_pos e1] at hx
          rw [List.getElem?_append_left (by rw [hvl]; exact e1)]; exact hx
        · rw [if_neg e1, if_pos (by omega)] at hx
          rw [List.getElem?_append_right (by rw [hvl]; omega), hvl]; exact hx
    · have h := ins_grow blk 0 l.length g.cap k vb 0 1 q.cap (fl l) (fG s) w (by omega) (by decide) k4 (by omega) (by omega) hvl rfl hcs hvs' h1c h1v
      refine Calls.mono h fun e w' ⟨he, hw⟩ => ?_
      subst he hw
      have hge := grownCap_ge w (l.length + 1) g.cap 65
      have hgm := grownCap_le_maxLen w (l.length + 1) g.cap 65 hmx
      have hro : ∀ R : Array Value, (w.alloc (.cells R 65)).drew.heap[w.heap.size]? = some (.cells R 65 (0, 0)) := fun R => alloc_at w _
      have hsz3 : (((fl l).take (k * 2)).toArray ++ zGs (l.length + 1 - k) ++ zGs (grownCap w (l.length + 1) g.cap 65 - (l.length + 1))).size = grownCap w (l.length + 1) g.cap 65 * 2 := by
        rw [Array.size_append, Array.size_append, hzs, hzs]
        show ((fl l).take (k * 2)).length + _ + _ = _
        rw [List.length_take, hvl]; omega
      have hlo : ∀ j, j < k * 2 → (((fl l).take (k * 2)).toArray ++ zGs (l.length + 1 - k) ++ zGs (grownCap w (l.length + 1) g.cap 65 - (l.length + 1)))[j]? = (fl l)[j]? := fun j hj => by
        have hA : j < ((fl l).take (k * 2)).toArray.size := by
          show j < ((fl l).take (k * 2)).length
          rw [List.length_take, hvl]; omega
        rw [Array.getElem?_append_left (by rw [Array.size_append]; omega), Array.getElem?_append_left hA, List.getElem?_toArray, List.getElem?_take, if_pos hj]
      generalize (((fl l).take (k * 2)).toArray ++ zGs (l.length + 1 - k) ++ zGs (grownCap w (l.length + 1) g.cap 65 - (l.length + 1))) = R at *
      obtain ⟨c1, d1, d2, d3⟩ := setCells_row w.heap.size (fG s) (k * 2) (w.alloc (.cells R 65)).drew R 65 (0, 0) (hro R)
      obtain ⟨m1, m2, m3, m4, m5, m6⟩ := setCells_rest w.heap.size (fG s) (k * 2) (w.alloc (.cells R 65)).drew
      obtain ⟨c2, f1, f2, f3⟩ := setCells_row w.heap.size ((fl l).drop (k * 2)) ((k + 1) * 2) (((w.alloc (.cells R 65)).drew.setCells w.heap.size (k * 2) (fG s)).drew) c1 65 (0, 0) d1
      obtain ⟨n1, n2, n3, n4, n5, n6⟩ := setCells_rest w.heap.size ((fl l).drop (k * 2)) ((k + 1) * 2) (((w.alloc (.cells R 65)).drew.setCells w.heap.size (k * 2) (fG s)).drew)
      refine fin w.heap.size _ c2 _ (.inl rfl) f1 (fun k hk hlt => (n1 k hk).trans ((m1 k hk).trans (alloc_old w _ hlt))) ?_ (n3.trans m3) (n4.trans m4) (n5.trans m5) ?_ hge hgm (by rw [f2, d2, hsz3]) fun j x hx => ?_
      · rw [n2]
        show _ ≤ ((w.alloc (.cells R 65)).drew.setCells w.heap.size (k * 2) (fG s)).heap.size
        rw [m2]; exact alloc_size w _
      · rw [n6]
        show _ ≤ ((w.alloc (.cells R 65)).drew.setCells w.heap.size (k * 2) (fG s)).drawn + 1
        rw [m6]
        show w.drawn ≤ w.drawn + 1 + 1
        omega
      · have hj := hins j x hx
        have hfg : (fG s).length = 2 := rfl
        rw [f3 j (by omega)]
        rw [insF_get hk] at hx
        by_cases e1 : j < k * 2
        · rw [if_pos e1] at hx
          rw [if_neg (by omega), d3 j (by omega), if_neg (by omega), hlo j e1]; exact hx
        · rw [if_neg e1] at hx
          by_cases e2 : j < k * 2 + 2
          · rw [if_pos e2] at hx
            rw [if_neg (by omega), d3 j (by omega), hfg, if_pos ⟨by omega, by omega⟩]; exact hx
          · rw [if_neg e2] at hx
            rw [if_pos ⟨by omega, by rw [List.length_drop, hvl]; omega⟩, List.getElem?_drop, show k * 2 + (j - (k + 1) * 2) = j - 2 by omega]; exact hx
end Go.Proofs.Ytdmcmfdmnlckdaa.C10
