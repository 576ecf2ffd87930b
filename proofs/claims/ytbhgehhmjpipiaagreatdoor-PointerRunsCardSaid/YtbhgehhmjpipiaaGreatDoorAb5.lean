/- The abstract machine's operations say what the model's do: reading, writing, freezing. -/
import Derived.Test.YtbhgehhmjpipiaaGreatDoorAb4
set_option linter.unusedSectionVars false
set_option linter.unusedSimpArgs false
set_option linter.unusedVariables false
namespace Go.Proofs.YtbhgehhmjpipiaaGreatDoor.Ab
open Go Go.RowKit
variable [Inhabited DW]
section
variable {P : Program} {w0 : Bs} {Pr0 : Nat → Nat → Prop} {G : Gh} {e : Env} {a : Act} {w : World}
theorem Inv.ev (hI : Inv w0 Pr0 G e a.tmps w) (x : Operand) : VRel G w (e.ev x) (a.eval x) := by
 cases x with
 | tmp t => exact hI.slot t
 | const v => exact absV_rel G w v
 | global g =>
   show VRel G w (match (default : DW).glob g with | some cs => .ptr cs | none => .any) _
   cases hg : (default : DW).glob g with
   | none => exact .any _
   | some cs => exact (hI.glNow g cs hg).pure_congr (G := ⟨G.pr, fun _ => none, fun _ => 0⟩) (G' := G) (fun _ _ h => h) (fun _ _ _ _ h => h) rfl
 | func f => exact .fn f [] #[] rfl (by simp) (by simp)
theorem cellsOf_rel {x : AV} {v : Value} {cs : List AV} (h : VRel G w x v) (hc : cellsOf x = some cs) :
 v.cells.size = cs.length ∧ ∀ (j : Nat) (c : AV) (u : Value), cs[j]? = some c → v.cells[j]? = some u → VRel G w c u := by
 have one : ∀ {x : AV} {v : Value}, VRel G w x v → v.cells = #[v] → cs = [x] → v.cells.size = cs.length ∧ ∀ (j : Nat) (c : AV) (u : Value), cs[j]? = some c → v.cells[j]? = some u → VRel G w c u := by
  intro x v h h1 h2
  subst h2
  rw [h1]
  refine ⟨rfl, fun j c u hj hu => ?_⟩
  cases j with
  | zero => simp at hj hu; subst hj; subst hu; exact h
  | succ j => simp at hj
 have hcell : ∀ v : Value, v.oneCell' = true → v.cells = #[v] := fun v hv => by cases v <;> first | rfl | simp [Value.oneCell'] at hv
 cases h with
 | agg cs' vs hn h => simp only [cellsOf, Option.some.injEq] at hc; subst hc; exact ⟨hn, h⟩
 | tup => simp [cellsOf] at hc
 | any => simp [cellsOf] at hc
 | ref t ver v hv h1 h => simp only [cellsOf, Option.some.injEq] at hc; exact one (.ref t ver v hv h1 h) (hcell _ h1) hc.symm
 | loc t ver i off v hv h1 h => simp only [cellsOf, Option.some.injEq] at hc; exact one (.loc t ver i off v hv h1 h) (hcell _ h1) hc.symm
 | win t ver k n v hv h1 h => simp only [cellsOf, Option.some.injEq] at hc; exact one (.win t ver k n v hv h1 h) (hcell _ h1) hc.symm
 | icap => simp [cellsOf] at hc
 | int k n => simp only [cellsOf, Option.some.injEq] at hc; exact one (.int k n) rfl hc.symm
 | bool b => simp only [cellsOf, Option.some.injEq] at hc; exact one (.bool b) rfl hc.symm
 | ub b => simp only [cellsOf, Option.some.injEq] at hc; exact one (.ub b) rfl hc.symm
 | str s => simp only [cellsOf, Option.some.injEq] at hc; exact one (.str s) rfl hc.symm
 | nils => simp only [cellsOf, Option.some.injEq] at hc; exact one .nils rfl hc.symm
 | emp A => simp only [cellsOf, Option.some.injEq] at hc; exact one (.emp A) rfl hc.symm
 | sl0 A c => simp only [cellsOf, Option.some.injEq] at hc; exact one (.sl0 A c) rfl hc.symm
 | sl xs b o c esz V h1 h2 h3 h4 h5 h6 => simp only [cellsOf, Option.some.injEq] at hc; exact one (.sl xs b o c esz V h1 h2 h3 h4 h5 h6) rfl hc.symm
 | ptr cs b o V h3 h4 h5 h6 => simp only [cellsOf, Option.some.injEq] at hc; exact one (.ptr cs b o V h3 h4 h5 h6) rfl hc.symm
 | fn f cs vs h1 h2 h3 => simp only [cellsOf, Option.some.injEq] at hc; exact one (.fn f cs vs h1 h2 h3) rfl hc.symm
theorem Inv.obj (hI : Inv w0 Pr0 G e a.tmps w) {t ver : Nat} {ty : TypeId} {esz : Nat} {fz pu : Bool} {xs : List (List AV)} (ho : e.go t = .obj ver ty esz fz pu xs) :
 G.cnt t = ver ∧ (pu = true → ∀ x ∈ xs, ∀ a ∈ x, AV.cellP a = true) ∧ (∀ x ∈ xs, x.length = esz) ∧
  ∃ g, G.ob t = some g ∧ g.ver = ver ∧ g.n = xs.length ∧ g.esz = esz ∧
   ((g.cap = 0 ∧ xs = []) ∨
     ∃ blk cs, g.base = some ⟨blk, 0, none⟩ ∧ w0.own blk ∧ w.heap[blk]? = some (.cells cs ty (0, 0)) ∧ xs.length ≤ g.cap ∧ g.cap ≤ maxLen ∧ cs.size = g.cap * esz ∧ 0 < g.cap ∧
      (∀ (i j : Nat) (x : List AV) (a : AV), xs[i]? = some x → x[j]? = some a → ∃ v, cs[i * esz + j]? = some v ∧ VRel G w a v) ∧
      (∀ o, G.pr blk o → fz = true ∧ o < xs.length * esz)) := by
 have := hI.objs t
 rw [ho] at this
 exact this
theorem Inv.olt (_ : Inv w0 Pr0 G e a.tmps w) {t ver : Nat} {ty : TypeId} {esz : Nat} {fz pu : Bool} {xs : List (List AV)} (ho : e.go t = .obj ver ty esz fz pu xs) : t < e.o.length := by
 rcases Nat.lt_or_ge t e.o.length with h | h
 · exact h
 · simp [Env.go, List.getD_eq_getElem?_getD, List.getElem?_eq_none h] at ho
theorem Inv.cellsAt (hI : Inv w0 Pr0 G e a.tmps w) {p : AV} {pv : Value} {cs : List AV} (h : VRel G w p pv) (hc : e.cellsAt p = some cs) :
 ∃ (b o : Nat) (V : Nat → Value), pv = .pointer (some ⟨b, o, none⟩) ∧ ∀ (j : Nat) (c : AV), cs[j]? = some c → w.cell? ⟨b, o + j, none⟩ = some (V j) ∧ VRel G w c (V j) := by
 cases h with
 | ptr cs' b o V h3 h4 h5 h6 =>
   simp only [Env.cellsAt, Option.some.injEq] at hc; subst hc
   exact ⟨b, o, V, rfl, fun j c hj => ⟨h4 j c hj, h6 j c hj⟩⟩
 | loc t ver i off v hv h1 h =>
   simp only [Env.cellsAt] at hc
   cases ho : e.go t with
   | obj ver' ty esz fz pu xs =>
     rw [ho] at hc
     simp only at hc
     split at hc
     case isFalse => cases hc
     rename_i hver
     subst hver
     obtain ⟨_, _, _, g, h4, h5, h6, h7, h8⟩ := hI.obj ho
     cases hx : xs[i]? with
     | none => rw [hx] at hc; cases hc
     | some x =>
       rw [hx] at hc
       simp only [Option.map_some, Option.some.injEq] at hc
       subst hc
       rcases h8 with ⟨_, h8⟩ | ⟨blk, arr, k1, k2, k3, k4, k5, k6, k7, k8, k9⟩
       · subst h8; cases hx
       · obtain ⟨b, hb, rfl⟩ := h g h4 h5
         rw [k1] at hb; cases hb
         refine ⟨blk, i * esz + off, fun j => (arr[i * esz + (off + j)]?).getD undef, by rw [h7], fun j c hj => ?_⟩
         rw [List.getElem?_drop] at hj
         obtain ⟨v, hv, hr⟩ := k8 i (off + j) x c hx hj
         have e1 : i * esz + off + j = i * esz + (off + j) := by omega
         simp only [e1, cell_of_row _ _ _ _ _ _ k3, hv, Option.getD_some]
         exact ⟨trivial, hr⟩
   | _ => rw [ho] at hc; cases hc
 | _ => simp [Env.cellsAt] at hc
theorem run_isAgg {ty : TypeId} {b : Bool} (h : aggT P ty = some b) (w : World) : (isAgg ty).run P w = .ok b w := by
 unfold aggT at h
 cases hu : P.underlying ty with
 | none => rw [hu] at h; cases h
 | some d =>
   rw [hu] at h
   simp only [Option.map_some, Option.some.injEq] at h
   simp only [isAgg, Sem.run_bind, run_underlying hu, Result.andThen_ok]
   cases d <;> simp_all
theorem run_sizeOf {ty : TypeId} {n : Nat} (h : sizeT P ty = some n) (w : World) : (sizeOf ty).run P w = .ok n w := by
 unfold sizeT at h
 cases hi : P.info? ty with
 | none => rw [hi] at h; cases h
 | some i =>
   rw [hi] at h
   simp only [Option.map_some, Option.some.injEq] at h
   subst h
   simp [sizeOf, typeInfo, hi]
theorem Inv.run_load (hI : Inv w0 Pr0 G e a.tmps w) {ty : TypeId} {x : AV} {xv : Value} {r : AV} (hx : VRel G w x xv) (hr : e.load P ty x = some r) :
 ∃ v, (Instr.loadAt ty xv).run P w = .ok v w ∧ VRel G w r v := by
 unfold Env.load at hr
 cases hc : e.cellsAt x with
 | none => rw [hc] at hr; simp at hr
 | some cs =>
   rw [hc] at hr
   obtain ⟨b, o, V, rfl, hV⟩ := hI.cellsAt hx hc
   cases ha : aggT P ty with
   | none => rw [ha] at hr; cases cs <;> simp at hr
   | some g =>
     rw [ha] at hr
     cases g with
     | true =>
       cases hs : sizeT P ty with
       | none => rw [hs] at hr; simp at hr
       | some n =>
         rw [hs] at hr
         simp only at hr
         split at hr
         case isFalse => cases hr
         rename_i hn
         cases hr
         have hl := run_loadCells (P := P) w ⟨b, o, none⟩ n V (fun j hj => by
          rw [Addr.add_lit]; exact (hV j cs[j] (List.getElem?_eq_getElem (by omega))).1)
         refine ⟨.agg ((List.range n).map V).toArray, ?_, .agg _ _ (by simp; omega) (fun i c v h1 h2 => ?_)⟩
         · simp [Instr.loadAt, Instr.sureAddr, loadVar, run_isAgg ha, run_sizeOf hs, hl]
         · have hi : i < n := by
            rcases Nat.lt_or_ge i n with h | h
            · exact h
            · rw [List.getElem?_eq_none (by simp; omega)] at h1; cases h1
           simp [hi] at h2
           subst h2
           rw [List.getElem?_take_of_lt hi] at h1
           exact (hV i c h1).2
     | false =>
       cases cs with
       | nil => simp at hr
       | cons c cs =>
         simp only [Option.some.injEq] at hr
         subst hr
         obtain ⟨h1, h2⟩ := hV 0 c rfl
         refine ⟨V 0, ?_, h2⟩
         simp [Instr.loadAt, Instr.sureAddr, loadVar, run_isAgg ha, load, Sem.run]
         simp only [Nat.add_zero] at h1
         rw [h1]
theorem Inv.run_store (hI : Inv w0 Pr0 G e a.tmps w) {ty : TypeId} {x y : AV} {xv yv : Value} {ws : Ws} (hx : VRel G w x xv) (hy : VRel G w y yv) (hr : e.store P ty x y = some ws) :
 ∃ w' G', (Instr.storeAt ty xv yv).run P w = .ok () w' ∧ Inv w0 Pr0 G' (e.puts ws) a.tmps w' ∧ GLe G w G' w' := by
 cases hx with
 | loc t ver i off v hv h1 h =>
   simp only [Env.store] at hr
   cases ho : e.go t with
   | obj ver' ty' esz fz pu xs =>
     rw [ho] at hr
     cases fz with
     | true => simp at hr
     | false =>
       simp only at hr
       split at hr
       case isFalse => cases hr
       rename_i hver
       subst hver
       have hlt := hI.olt ho
       obtain ⟨hcnt, hpu, hs, g, h4, h5, h6, h7, h8⟩ := hI.obj ho
       cases hxi : xs[i]? with
       | none => rw [hxi] at hr; simp at hr
       | some row =>
         cases hc : cellsOf y with
         | none => rw [hxi, hc] at hr; simp at hr
         | some cs =>
           cases hsz : sizeT P ty with
           | none => rw [hxi, hc, hsz] at hr; simp at hr
           | some n =>
             rw [hxi, hc, hsz] at hr
             simp only at hr
             split at hr
             case isFalse => cases hr
             rename_i hln
             split at hr
             case isFalse => cases hr
             rename_i hfit
             split at hr
             case isFalse => cases hr
             rename_i hq
             cases hr
             have hil : i < xs.length := (List.getElem?_eq_some_iff.1 hxi).1
             have hrow : row.length = esz := hs row (List.mem_of_getElem? hxi)
             rcases h8 with ⟨_, h8⟩ | ⟨blk, arr, k1, k2, k3, k4, k5, k6, k7, k8, k9⟩
             · subst h8; cases hxi
             · obtain ⟨b, hb, rfl⟩ := h g h4 h5
               rw [k1] at hb; cases hb
               obtain ⟨c1, c2⟩ := cellsOf_rel hy hc
               have hone : ∀ u ∈ yv.cells.toList, u.oneCell' = true := fun u hu => by
                obtain ⟨j, hj⟩ := List.getElem?_of_mem hu
                rw [Array.getElem?_toList] at hj
                have hjl : j < cs.length := by
                 have := (Array.getElem?_eq_some_iff.1 hj).1; omega
                have hcj := List.getElem?_eq_getElem hjl
                exact (c2 j _ u hcj hj).oneCell (List.all_eq_true.1 hq _ (List.mem_of_getElem? hcj))
               have hmul : (i + 1) * esz ≤ g.cap * esz := Nat.mul_le_mul_right _ (by omega)
               rw [Nat.add_mul, Nat.one_mul] at hmul
               have hst := run_storeCells_at P blk (i * esz + off) ty' yv.cells.toList 0 arr w k3 (by simp; omega) hone
               simp only [Nat.add_zero] at hst
               have hlen : yv.cells.toList.length = n := by simp; omega
               rw [hlen] at hst
               have hget : ∀ k : Nat, (arr.toList.take (i * esz + off) ++ yv.cells.toList ++ arr.toList.drop (i * esz + off + n))[k]? =
                if k < i * esz + off then arr[k]? else if k < i * esz + off + n then yv.cells[k - (i * esz + off)]? else arr[k]? := by
                intro k
                have hal : (arr.toList.take (i * esz + off)).length = i * esz + off := by rw [List.length_take, Array.length_toList]; omega
                by_cases hk1 : k < i * esz + off
                · rw [if_pos hk1, List.append_assoc, List.getElem?_append_left (by omega), List.getElem?_take_of_lt hk1, Array.getElem?_toList]
                · rw [if_neg hk1, List.append_assoc, List.getElem?_append_right (by omega), hal]
                  by_cases hk2 : k < i * esz + off + n
                  · rw [if_pos hk2, List.getElem?_append_left (by omega), Array.getElem?_toList]
                  · rw [if_neg hk2, List.getElem?_append_right (by omega), hlen, List.getElem?_drop, Array.getElem?_toList]
                    congr 1; omega
               have hpl := hI.place t hlt ty' esz g.cap ver blk false (pu && cs.all AV.cellP) (xs.set i (row.take off ++ cs ++ row.drop (off + n)))
                (arr.toList.take (i * esz + off) ++ yv.cells.toList ++ arr.toList.drop (i * esz + off + n)).toArray arr
                (.inr ⟨by
                  rw [h4]
                  obtain ⟨gv, gb, gn, gc, ge⟩ := g
                  simp only at h5 h6 h7 k1
                  subst h5 h6 h7 k1
                  simp, hcnt⟩) k2 k3
                (fun t' g' hne hg' hc' hbs => hI.sep t' t g' g hne hg' h4 hc' k7 (by rw [hbs, k1]))
                (fun o v hp _ => absurd (k9 o hp).1 (by simp))
                (fun o hp => absurd (k9 o hp).1 (by simp))
                (fun hp x hx b hb => by
                  simp only [Bool.and_eq_true] at hp
                  rcases List.mem_or_eq_of_mem_set hx with hx | hx
                  · exact hpu hp.1 x hx b hb
                  · subst hx
                    simp only [List.mem_append] at hb
                    rcases hb with (hb | hb) | hb
                    · exact hpu hp.1 row (List.mem_of_getElem? hxi) b (List.mem_of_mem_take hb)
                    · exact List.all_eq_true.1 hp.2 b hb
                    · exact hpu hp.1 row (List.mem_of_getElem? hxi) b (List.mem_of_mem_drop hb))
                (fun x hx => by
                  rcases List.mem_or_eq_of_mem_set hx with hx | hx
                  · exact hs x hx
                  · subst hx; simp; omega)
                (by simpa using k4) k5 k7
                (by
                  simp only [List.size_toArray, List.length_append, List.length_take, List.length_drop, hlen, Array.length_toList]
                  omega)
                (fun i' j' x' b' hx' hb' => by
                  rw [List.getElem?_toArray, hget]
                  by_cases hii : i = i'
                  · subst hii
                    rw [List.getElem?_set_self hil] at hx'
                    cases hx'
                    have hto : (row.take off).length = off := by rw [List.length_take]; omega
                    by_cases hj1 : j' < off
                    · rw [if_pos (by omega)]
                      rw [List.append_assoc, List.getElem?_append_left (by omega), List.getElem?_take_of_lt hj1] at hb'
                      exact k8 i j' row b' hxi hb'
                    · rw [if_neg (by omega)]
                      rw [List.append_assoc, List.getElem?_append_right (by omega), hto] at hb'
                      by_cases hj2 : j' < off + n
                      · rw [if_pos (by omega)]
                        rw [List.getElem?_append_left (by omega)] at hb'
                        have e1 : i * esz + j' - (i * esz + off) = j' - off := by omega
                        rw [e1]
                        have hjl : j' - off < yv.cells.size := by omega
                        exact ⟨_, Array.getElem?_eq_getElem hjl, c2 (j' - off) b' _ hb' (Array.getElem?_eq_getElem hjl)⟩
                      · rw [if_neg (by omega)]
                        rw [List.getElem?_append_right (by omega), List.getElem?_drop] at hb'
                        have e1 : off + n + (j' - off - cs.length) = j' := by omega
                        rw [e1] at hb'
                        exact k8 i j' row b' hxi hb'
                  · rw [List.getElem?_set_ne hii] at hx'
                    have hxl := hs x' (List.mem_of_getElem? hx')
                    have hjl : j' < x'.length := (List.getElem?_eq_some_iff.1 hb').1
                    rcases Nat.lt_or_gt_of_ne hii with hlt' | hlt'
                    · have : (i + 1) * esz ≤ i' * esz := Nat.mul_le_mul_right _ hlt'
                      rw [Nat.add_mul, Nat.one_mul] at this
                      rw [if_neg (by omega), if_neg (by omega)]
                      exact k8 i' j' x' b' hx' hb'
                    · have : (i' + 1) * esz ≤ i * esz := Nat.mul_le_mul_right _ hlt'
                      rw [Nat.add_mul, Nat.one_mul] at this
                      rw [if_pos (by omega)]
                      exact k8 i' j' x' b' hx' hb')
               obtain ⟨G', hle, hI', _⟩ := hpl
               refine ⟨_, G', ?_, hI', hle⟩
               have hsz' : yv.cells.size = n := by omega
               simp [Instr.storeAt, Instr.sureAddr, storeVar, run_sizeOf hsz, hsz', h7, hst]
   | _ => rw [ho] at hr; simp at hr
 | _ => simp [Env.store] at hr
end
end Go.Proofs.YtbhgehhmjpipiaaGreatDoor.Ab
