/- The abstract machine's other operations say what the model's do. -/
import Derived.Test.YtbhgehhmjpipiaaGreatDoorAb7
import GoSem.Builtin.Max
set_option linter.unusedSectionVars false
set_option linter.unusedSimpArgs false
set_option linter.unusedVariables false
namespace Go.Proofs.YtbhgehhmjpipiaaGreatDoor.Ab
open Go Go.RowKit
variable [Inhabited DW]
section
variable {P : Program} {w0 : Bs} {Pr0 : Nat → Nat → Prop} {G : Gh} {e : Env} {a : Act} {w : World}
theorem isStrT_spec {t : TypeId} (h : isStrT P t = true) : P.underlying t = some .string := by
 unfold isStrT at h; split at h
 · assumption
 · cases h
theorem isBoolT_spec {t : TypeId} (h : isBoolT P t = true) : P.underlying t = some .bool := by
 unfold isBoolT at h; split at h
 · assumption
 · cases h
theorem intT_spec {t : TypeId} {k : IntKind} (h : intT P t = some k) : P.underlying t = some (.int k) := by
 unfold intT at h; split at h
 · rename_i k' hk; cases h; exact hk
 · cases h
theorem run_sliceBound (k : IntKind) (n : Int) (y : Nat) (code : BoundsCode) (h0 : 0 ≤ n) (h1 : n ≤ y) (w : World) : (Instr.sliceBound (.int k n) y code).run P w = .ok n.toNat w := by
 simp [Instr.sliceBound, asIntOf, h0, h1]
theorem bound_spec {d : Int} {o : Option AV} {l : Int} (h : bound d o = some l) : (o = none ∧ l = d) ∨ ∃ k, o = some (.int k l) := by
 cases o with
 | none => simp only [bound, Option.some.injEq] at h; exact .inl ⟨rfl, h.symm⟩
 | some x =>
   cases x <;> simp [bound] at h
   subst h
   exact .inr ⟨_, rfl⟩
theorem run_sliceBounds (isS : Bool) {len cap : Nat} (hlc : len ≤ cap) {lo hi : Option AV} {lov hiv : Option Value} {l h : Int} {G : Gh}
 (hlo : ∀ x, lo = some x → ∃ v, lov = some v ∧ VRel G w x v) (hlon : lo = none → lov = none) (hhi : ∀ x, hi = some x → ∃ v, hiv = some v ∧ VRel G w x v) (hhin : hi = none → hiv = none)
 (h1 : bound 0 lo = some l) (h2 : bound len hi = some h) (a1 : 0 ≤ l) (a2 : l ≤ h) (a3 : h ≤ len) (w' : World) :
 (Instr.sliceBounds isS len cap lov hiv none).run P w' = .ok (l.toNat, h.toNat, cap) w' := by
 have hb : ∀ {o : Option AV} {ov : Option Value} {d n : Int}, (∀ x, o = some x → ∃ v, ov = some v ∧ VRel G w x v) → (o = none → ov = none) → bound d o = some n → (ov = none ∧ n = d) ∨ ∃ k, ov = some (.int k n) := by
  intro o ov d n q1 q2 q3
  rcases bound_spec q3 with ⟨rfl, rfl⟩ | ⟨k, rfl⟩
  · exact .inl ⟨q2 rfl, rfl⟩
  · obtain ⟨v, rfl, hr⟩ := q1 _ rfl
    cases hr
    exact .inr ⟨k, rfl⟩
 have q1 : ∀ k code, (Instr.sliceBound (.int k h) cap code).run P w' = .ok h.toNat w' := fun k code => run_sliceBound k h cap code (by omega) (by omega) w'
 have q2 : ∀ k code, (Instr.sliceBound (.int k l) h.toNat code).run P w' = .ok l.toNat w' := fun k code => run_sliceBound k l h.toNat code a1 (by omega) w'
 rcases hb hhi hhin h2 with ⟨rfl, rfl⟩ | ⟨k, rfl⟩ <;> rcases hb hlo hlon h1 with ⟨rfl, rfl⟩ | ⟨k', rfl⟩ <;>
  (try simp only [Int.toNat_natCast] at q2) <;> simp [Instr.sliceBounds, q1, q2]
theorem run_sliceBoundsW {len cap : Nat} {lo hi : Option AV} {lov hiv : Option Value} {l h : Int} {G : Gh}
 (hlo : ∀ x, lo = some x → ∃ v, lov = some v ∧ VRel G w x v) (hlon : lo = none → lov = none) (hhi : ∀ x, hi = some x → ∃ v, hiv = some v ∧ VRel G w x v) (hhin : hi = none → hiv = none)
 (h1 : bound 0 lo = some l) (h2 : bound len hi = some h) (a1 : 0 ≤ l) (a2 : l ≤ h) (a3 : h ≤ cap) (w' : World) :
 (Instr.sliceBounds true len cap lov hiv none).run P w' = .ok (l.toNat, h.toNat, cap) w' := by
 have hb : ∀ {o : Option AV} {ov : Option Value} {d n : Int}, (∀ x, o = some x → ∃ v, ov = some v ∧ VRel G w x v) → (o = none → ov = none) → bound d o = some n → (ov = none ∧ n = d) ∨ ∃ k, ov = some (.int k n) := by
  intro o ov d n q1 q2 q3
  rcases bound_spec q3 with ⟨rfl, rfl⟩ | ⟨k, rfl⟩
  · exact .inl ⟨q2 rfl, rfl⟩
  · obtain ⟨v, rfl, hr⟩ := q1 _ rfl
    cases hr
    exact .inr ⟨k, rfl⟩
 have q1 : ∀ k code, (Instr.sliceBound (.int k h) cap code).run P w' = .ok h.toNat w' := fun k code => run_sliceBound k h cap code (by omega) (by omega) w'
 have q2 : ∀ k code, (Instr.sliceBound (.int k l) h.toNat code).run P w' = .ok l.toNat w' := fun k code => run_sliceBound k l h.toNat code a1 (by omega) w'
 rcases hb hhi hhin h2 with ⟨rfl, rfl⟩ | ⟨k, rfl⟩ <;> rcases hb hlo hlon h1 with ⟨rfl, rfl⟩ | ⟨k', rfl⟩ <;>
  (try simp only [Int.toNat_natCast] at q2) <;> simp [Instr.sliceBounds, q1, q2]
theorem within_spec {l h n : Int} {α : Type} {x y : α} (hw : within l h n x = some y) : 0 ≤ l ∧ l ≤ h ∧ h ≤ n ∧ x = y := by
 unfold within at hw
 split at hw
 · split at hw
   · split at hw
     · cases hw; exact ⟨by assumption, by assumption, by assumption, rfl⟩
     · cases hw
   · cases hw
 · cases hw
theorem Inv.run_cutW (hI : Inv w0 Pr0 G e a.tmps w) {ty : TypeId} {t v0 k len cap : Nat} {nn : Option Nat} {r : AV} {A : Option Addr} {lo hi : Option AV} {lov hiv : Option Value} {ws : Ws}
 (hlo : ∀ x, lo = some x → ∃ v, lov = some v ∧ VRel G w x v) (hlon : lo = none → lov = none) (hhi : ∀ x, hi = some x → ∃ v, hiv = some v ∧ VRel G w x v) (hhin : hi = none → hiv = none)
 (hA : ∀ v' ty' esz' fz pu xs g, e.go t = .obj v' ty' esz' fz pu xs → v0 = v' → k ≤ xs.length → G.ob t = some g → g.ver = v' → len = nn.getD xs.length ∧ cap = g.cap - k ∧ (k < g.cap → ∃ b, g.base = some ⟨b, 0, none⟩ ∧ A = some ⟨b, k * g.esz, none⟩))
 (h : e.cutW P ty t v0 k nn lo hi = some (r, ws)) :
 ∃ v G', (Instr.sliceAt ty (.slice A len cap) lov hiv none).run P w = .ok v w ∧ Inv w0 Pr0 G' (e.puts ws) a.tmps w ∧ GLe G w G' w ∧ VRel G' w r v := by
 unfold Env.cutW at h
 cases ho : e.go t with
 | obj ver' oty esz' fz pu xs =>
   rw [ho] at h
   simp only at h
   split at h
   case isFalse => cases h
   rename_i hver
   subst hver
   cases he : elemT P ty with
   | none => rw [he] at h; simp at h
   | some et =>
   obtain ⟨hu, hel⟩ := elemT_spec he
   rw [he] at h
   simp only [Option.bind_some] at h
   cases hs : sizeT P et with
   | none => rw [hs] at h; simp at h
   | some esz =>
   cases hb1 : bound 0 lo with
   | none => rw [hs, hb1] at h; simp at h
   | some l =>
   cases hb2 : bound ((nn.getD xs.length : Nat) : Int) hi with
   | none => rw [hs, hb1, hb2] at h; simp at h
   | some hh =>
   rw [hs, hb1, hb2] at h
   simp only at h
   split at h
   case isFalse => cases h
   rename_i hes
   subst hes
   split at h
   case isFalse => cases h
   rename_i hkx
   obtain ⟨a1, a2, a3, hq⟩ := within_spec h
   cases hq
   obtain ⟨hcnt, hpu, hs', g, h4, h5, h6, h7, h8⟩ := hI.obj ho
   obtain ⟨rfl, rfl, hb⟩ := hA _ _ _ _ _ _ g ho rfl hkx h4 h5
   have hxc : xs.length ≤ g.cap := by
    rcases h8 with ⟨q1, q2⟩ | ⟨blk, arr, k1, k2, k3, k4, k5, k6, k7, k8, k9⟩
    · rw [q2]; exact Nat.zero_le _
    · exact k4
   clear h8
   have hsb := run_sliceBoundsW (P := P) (w := w) hlo hlon hhi hhin hb1 hb2 a1 a2 (cap := g.cap - k) (by omega) w
   refine ⟨.slice (if g.cap - k = l.toNat then A else A.map (·.add (l.toNat * esz'))) (hh.toNat - l.toNat) (g.cap - k - l.toNat), G, ?_, hI, GLe.refl _ _, .win t v0 _ _ _ (by rw [hcnt]; exact Nat.le_refl _) rfl (fun g' hg' he' => ?_)⟩
   · simp [Instr.sliceAt, run_underlying hu, Instr.slice, hsb, run_sizeOf hs]
   · rw [h4] at hg'; cases hg'
     refine ⟨_, by rw [Nat.sub_sub], by omega, fun hlt => ?_⟩
     obtain ⟨b, hb1, rfl⟩ := hb (by omega)
     refine ⟨b, hb1, ?_⟩
     rw [if_neg (by omega)]
     simp only [Option.map_some, Addr.add_lit, h7, Nat.add_mul]
 | _ => rw [ho] at h; simp at h
theorem Inv.run_cut3 (hI : Inv w0 Pr0 G e a.tmps w) {ty : TypeId} {x m r : AV} {xv mv : Value} {lo hi : Option AV} {lov hiv : Option Value} (hx : VRel G w x xv)
 (hlo : ∀ x, lo = some x → ∃ v, lov = some v ∧ VRel G w x v) (hlon : lo = none → lov = none) (hhi : ∀ x, hi = some x → ∃ v, hiv = some v ∧ VRel G w x v) (hm : VRel G w m mv)
 (h : e.cut3 P ty x lo hi m = some r) :
 ∃ v, (Instr.sliceAt ty xv lov hiv (some mv)).run P w = .ok v w ∧ VRel G w r v := by
 unfold Env.cut3 at h
 cases he : elemT P ty with
 | none => rw [he] at h; simp at h
 | some et =>
 obtain ⟨hu, hel⟩ := elemT_spec he
 rw [he] at h
 simp only [Option.bind_some] at h
 cases hs : sizeT P et with
 | none => rw [hs] at h; simp at h
 | some esz =>
 cases hr : e.rows x with
 | none => rw [hs, hr] at h; simp at h
 | some q =>
 obtain ⟨pu, xs⟩ := q
 cases hb1 : bound 0 lo with
 | none => rw [hs, hr, hb1] at h; simp at h
 | some l =>
 cases hi with
 | none => rw [hs, hr, hb1] at h; simp at h
 | some hx0 =>
 cases hx0 <;> try (rw [hs, hr, hb1] at h; simp at h; done)
 rename_i kh hh
 cases m <;> try (rw [hs, hr, hb1] at h; simp at h; done)
 rename_i km mm
 rw [hs, hr, hb1] at h
 simp only at h
 split at h
 case isFalse => cases h
 rename_i hmx
 obtain ⟨a1, a2, a3, hq⟩ := within_spec h
 subst hq
 obtain ⟨hv, q1, q2⟩ := hhi _ rfl
 subst q1
 cases q2
 cases hm
 have hxv : ∃ A c, xv = .slice A xs.length c ∧ xs.length ≤ c := by
  cases hx with
  | nils => simp only [Env.rows, Option.some.injEq, Prod.mk.injEq] at hr; obtain ⟨_, rfl⟩ := hr; exact ⟨_, _, rfl, Nat.le_refl _⟩
  | emp A => simp only [Env.rows, Option.some.injEq, Prod.mk.injEq] at hr; obtain ⟨_, rfl⟩ := hr; exact ⟨_, _, rfl, Nat.le_refl _⟩
  | sl0 A c => simp only [Env.rows, Option.some.injEq, Prod.mk.injEq] at hr; obtain ⟨_, rfl⟩ := hr; exact ⟨_, _, rfl, Nat.zero_le _⟩
  | sl ys b o c esz V h1 h2 h3 h4 h5 h6 => simp only [Env.rows, Option.some.injEq, Prod.mk.injEq] at hr; obtain ⟨_, rfl⟩ := hr; exact ⟨_, _, rfl, h1⟩
  | ref tt ver _ hv h1 hvv =>
    simp only [Env.rows] at hr
    cases ho : e.go tt with
    | obj ver' oty esz' fz pu' xs' =>
      rw [ho] at hr
      simp only at hr
      split at hr
      case isFalse => cases hr
      rename_i hver
      subst hver
      simp only [Option.some.injEq, Prod.mk.injEq] at hr
      obtain ⟨rfl, rfl⟩ := hr
      obtain ⟨_, _, _, g, h4, h5, h6, h7, h8⟩ := hI.obj ho
      refine ⟨g.base, g.cap, by rw [hvv g h4 h5, h6], ?_⟩
      rcases h8 with ⟨q1, q2⟩ | ⟨blk, arr, k1, k2, k3, k4, k5, k6, k7, k8, k9⟩
      · rw [q2]; exact Nat.zero_le _
      · exact k4
    | _ => rw [ho] at hr; simp at hr
  | win tt ver k n _ hv h1 hvv =>
    simp only [Env.rows] at hr
    cases ho : e.go tt with
    | obj ver' oty esz' fz pu' xs' =>
      rw [ho] at hr
      simp only at hr
      split at hr
      case isFalse => cases hr
      rename_i hver
      subst hver
      split at hr
      case isFalse => cases hr
      rename_i hkn
      simp only [Option.some.injEq, Prod.mk.injEq] at hr
      obtain ⟨rfl, rfl⟩ := hr
      obtain ⟨_, _, _, g, h4, h5, h6, h7, h8⟩ := hI.obj ho
      obtain ⟨A, rfl, hcap, hb⟩ := hvv g h4 h5
      have hln : ((xs'.drop k).take n).length = n := by rw [List.length_take, List.length_drop]; omega
      exact ⟨A, g.cap - k, by rw [hln], by omega⟩
    | _ => rw [ho] at hr; simp at hr
  | _ => simp [Env.rows] at hr
 obtain ⟨A, c, rfl, hc⟩ := hxv
 have hlv : (lov = none ∧ l = 0) ∨ ∃ k, lov = some (.int k l) := by
  rcases bound_spec hb1 with ⟨rfl, rfl⟩ | ⟨k, rfl⟩
  · exact .inl ⟨hlon rfl, rfl⟩
  · obtain ⟨v, rfl, hr⟩ := hlo _ rfl
    cases hr
    exact .inr ⟨k, rfl⟩
 have q0 : ∀ k code, (Instr.sliceBound (.int k mm) c code).run P w = .ok mm.toNat w := fun k code => run_sliceBound k mm c code (by omega) (by omega) w
 have q1 : ∀ k code, (Instr.sliceBound (.int k hh) mm.toNat code).run P w = .ok hh.toNat w := fun k code => run_sliceBound k hh mm.toNat code (by omega) (by omega) w
 have q2 : ∀ k code, (Instr.sliceBound (.int k l) hh.toNat code).run P w = .ok l.toNat w := fun k code => run_sliceBound k l hh.toNat code a1 (by omega) w
 rcases hlv with ⟨rfl, rfl⟩ | ⟨k', rfl⟩
 · exact ⟨.slice (if mm.toNat = 0 then A else A.map (·.add (0 * esz))) (hh.toNat - 0) (mm.toNat - 0), by simp [Instr.sliceAt, run_underlying hu, Instr.slice, Instr.sliceBounds, q0, q1, run_sizeOf hs], .any _⟩
 · exact ⟨.slice (if mm.toNat = l.toNat then A else A.map (·.add (l.toNat * esz))) (hh.toNat - l.toNat) (mm.toNat - l.toNat), by simp [Instr.sliceAt, run_underlying hu, Instr.slice, Instr.sliceBounds, q0, q1, q2, run_sizeOf hs], .any _⟩
theorem Inv.run_cut (hI : Inv w0 Pr0 G e a.tmps w) {ty : TypeId} {x r : AV} {xv : Value} {lo hi : Option AV} {lov hiv : Option Value} {ws : Ws} (hx : VRel G w x xv)
 (hlo : ∀ x, lo = some x → ∃ v, lov = some v ∧ VRel G w x v) (hlon : lo = none → lov = none) (hhi : ∀ x, hi = some x → ∃ v, hiv = some v ∧ VRel G w x v) (hhin : hi = none → hiv = none)
 (h : e.cut P ty x lo hi = some (r, ws)) :
 ∃ v G', (Instr.sliceAt ty xv lov hiv none).run P w = .ok v w ∧ Inv w0 Pr0 G' (e.puts ws) a.tmps w ∧ GLe G w G' w ∧ VRel G' w r v := by
 have slc : (match (elemT P ty).bind (sizeT P), e.frz1 x with
  | some esz, some (.sl xs, ws) => match bound 0 lo, bound xs.length hi with
    | some l, some h => if rowsLen esz xs = true then within l h xs.length (AV.sl ((xs.take h.toNat).drop l.toNat), ws) else none
    | _, _ => none
  | _, _ => none) = some (r, ws) → ∃ v G', (Instr.sliceAt ty xv lov hiv none).run P w = .ok v w ∧ Inv w0 Pr0 G' (e.puts ws) a.tmps w ∧ GLe G w G' w ∧ VRel G' w r v := by
  intro h
  cases he : elemT P ty with
  | none => rw [he] at h; simp at h
  | some et =>
  obtain ⟨hu, hel⟩ := elemT_spec he
  rw [he] at h
  simp only [Option.bind_some] at h
  cases hs : sizeT P et with
  | none => rw [hs] at h; simp at h
  | some esz =>
  cases hf : e.frz1 x with
  | none => rw [hs, hf] at h; simp at h
  | some q =>
  obtain ⟨x', ws'⟩ := q
  rw [hs, hf] at h
  cases x' with
  | sl xs =>
    simp only at h
    cases hb1 : bound 0 lo with
    | none => rw [hb1] at h; simp at h
    | some l =>
    cases hb2 : bound xs.length hi with
    | none => rw [hb1, hb2] at h; simp at h
    | some hh =>
    rw [hb1, hb2] at h
    simp only at h
    split at h
    case isFalse => cases h
    rename_i hrl
    obtain ⟨a1, a2, a3, hq⟩ := within_spec h
    cases hq
    obtain ⟨G', hle, hI', _, hR, _⟩ := frz1_sound (Sam.refl e) hI hx hf
    have hrun : ∀ A c, xs.length ≤ c → xv = .slice A xs.length c → (Instr.sliceAt ty xv lov hiv none).run P w = .ok (.slice (if c = l.toNat then A else A.map (·.add (l.toNat * esz))) (hh.toNat - l.toNat) (c - l.toNat)) w := by
     intro A c hc hv
     subst hv
     have hsb := run_sliceBounds (P := P) (w := w) true hc hlo hlon hhi hhin hb1 hb2 a1 a2 a3 w
     simp [Instr.sliceAt, run_underlying hu, Instr.slice, hsb, run_sizeOf hs]
    have hRl : ((xs.take hh.toNat).drop l.toNat).length = hh.toNat - l.toNat := by
     rw [List.length_drop, List.length_take]; omega
    by_cases hnil : (xs.take hh.toNat).drop l.toNat = []
    · rw [hnil]
      have hn0 : hh.toNat - l.toNat = 0 := by rw [← hRl, hnil]; rfl
      cases hR with
      | sl0 A c => exact ⟨_, G', hrun A c (Nat.zero_le _) rfl, hI', hle, by rw [hn0]; exact .sl0 _ _⟩
      | sl _ b o c esz' V hc _ _ _ _ _ => exact ⟨_, G', hrun _ c hc rfl, hI', hle, by rw [hn0]; exact .sl0 _ _⟩
    · have hne : xs ≠ [] := fun q => hnil (by rw [q]; simp)
      cases hR with
      | sl0 A c => exact absurd rfl hne
      | sl _ b o c esz' V hc hs' hp hcell hpr hr =>
        have hlt : l.toNat < xs.length := by
         have : 0 < hh.toNat - l.toNat := by
          rw [← hRl]
          rcases Nat.eq_zero_or_pos ((xs.take hh.toNat).drop l.toNat).length with h | h
          · exact absurd (List.eq_nil_of_length_eq_zero h) hnil
          · exact h
         omega
        have hee : esz' = esz := by
         cases xs with
         | nil => exact absurd rfl hne
         | cons y ys => rw [← hs' y (by simp), rowsLen_spec hrl y (by simp)]
        subst hee
        refine ⟨_, G', hrun _ c hc rfl, hI', hle, ?_⟩
        rw [if_neg (by omega), ← hRl]
        simp only [Option.map_some, Addr.add_lit]
        have hat : ∀ i x, ((xs.take hh.toNat).drop l.toNat)[i]? = some x → xs[l.toNat + i]? = some x := fun i x hx => by
         rw [List.getElem?_drop, List.getElem?_take] at hx
         split at hx
         · exact hx
         · cases hx
        have hoff : ∀ i j, o + l.toNat * esz' + i * esz' + j = o + (l.toNat + i) * esz' + j := fun i j => by rw [Nat.add_mul]; omega
        refine .sl _ b (o + l.toNat * esz') (c - l.toNat) esz' (fun i j => V (l.toNat + i) j) (by rw [hRl]; omega) (fun x hx => hs' x (List.mem_of_mem_take (List.mem_of_mem_drop hx)))
         (fun x hx => hp x (List.mem_of_mem_take (List.mem_of_mem_drop hx))) (fun i j x a h1 h2 => ?_) (fun i j x a h1 h2 => ?_) (fun i j x a h1 h2 => hr _ j x a (hat i x h1) h2)
        · rw [hoff]; exact hcell _ j x a (hat i x h1) h2
        · rw [hoff]; exact hpr _ j x a (hat i x h1) h2
  | _ => simp at h
 unfold Env.cut at h
 split at h
 · rename_i s
   split at h
   case isFalse => cases h
   rename_i hst
   have hu := isStrT_spec hst
   cases hb1 : bound 0 lo with
   | none => rw [hb1] at h; simp at h
   | some l =>
   cases hb2 : bound s.size hi with
   | none => rw [hb1, hb2] at h; simp at h
   | some hh =>
   rw [hb1, hb2] at h
   obtain ⟨a1, a2, a3, hq⟩ := within_spec h
   cases hq
   cases hx
   have hsb := run_sliceBounds (P := P) (w := w) false (Nat.le_refl s.size) hlo hlon hhi hhin hb1 hb2 a1 a2 a3 w
   refine ⟨.string (s.extract l.toNat hh.toNat), G, ?_, hI, GLe.refl _ _, .str _⟩
   simp [Instr.sliceAt, run_underlying hu, Instr.slice, hsb]
 · rename_i t v0
   cases hx with
   | ref _ _ _ hv h1 hvv =>
     have hs0 : ∃ A len cap, xv = .slice A len cap := by
      unfold Env.cutW at h
      cases ho : e.go t with
      | obj ver' oty esz' fz pu xs =>
        rw [ho] at h
        simp only at h
        split at h
        case isFalse => cases h
        rename_i hver
        subst hver
        obtain ⟨_, _, _, g, h4, h5, _⟩ := hI.obj ho
        exact ⟨_, _, _, hvv g h4 h5⟩
      | _ => rw [ho] at h; simp at h
     obtain ⟨A, len, cap, rfl⟩ := hs0
     refine hI.run_cutW (A := A) (len := len) (cap := cap) hlo hlon hhi hhin (fun v' ty' esz' fz pu xs g ho hvv' _ hg he => ?_) h
     subst hvv'
     obtain ⟨_, _, _, g', h4, h5, h6, h7, h8⟩ := hI.obj ho
     rw [hg] at h4; cases h4
     have := hvv g hg he
     simp only [Value.slice.injEq] at this
     obtain ⟨rfl, rfl, rfl⟩ := this
     refine ⟨h6, (Nat.sub_zero _).symm, fun hlt => ?_⟩
     rcases h8 with ⟨q1, q2⟩ | ⟨blk, arr, k1, _⟩
     · omega
     · exact ⟨blk, k1, by rw [k1, Nat.zero_mul]⟩
 · rename_i t v0 k n
   cases hx with
   | win _ _ _ _ _ hv h1 hvv =>
     have hs0 : ∃ A len cap, xv = .slice A len cap := by
      unfold Env.cutW at h
      cases ho : e.go t with
      | obj ver' oty esz' fz pu xs =>
        rw [ho] at h
        simp only at h
        split at h
        case isFalse => cases h
        rename_i hver
        subst hver
        obtain ⟨_, _, _, g, h4, h5, _⟩ := hI.obj ho
        obtain ⟨A, hA, _⟩ := hvv g h4 h5
        exact ⟨_, _, _, hA⟩
      | _ => rw [ho] at h; simp at h
     obtain ⟨A, len, cap, rfl⟩ := hs0
     refine hI.run_cutW (A := A) (len := len) (cap := cap) hlo hlon hhi hhin (fun v' ty' esz' fz pu xs g ho hvv' _ hg he => ?_) h
     subst hvv'
     obtain ⟨A', hA, hcap, hb⟩ := hvv g hg he
     simp only [Value.slice.injEq] at hA
     obtain ⟨rfl, rfl, rfl⟩ := hA
     exact ⟨rfl, rfl, hb⟩
 · cases he : elemT P ty with
   | none => rw [he] at h; simp at h
   | some et =>
   obtain ⟨hu, hel⟩ := elemT_spec he
   rw [he] at h
   simp only [Option.bind_some] at h
   cases hs : sizeT P et with
   | none => rw [hs] at h; simp at h
   | some esz =>
   rw [hs] at h
   cases hb1 : bound 0 lo with
   | none => rw [hb1] at h; simp at h
   | some l =>
   cases hb2 : bound 0 hi with
   | none => rw [hb1, hb2] at h; simp at h
   | some hh =>
   rw [hb1, hb2] at h
   obtain ⟨a1, a2, a3, hq⟩ := within_spec h
   cases hq
   cases hx
   have hsb := run_sliceBounds (P := P) (w := w) true (Nat.le_refl 0) hlo hlon hhi hhin hb1 hb2 a1 a2 (by simpa using a3) w
   have e1 : l.toNat = 0 := by omega
   have e2 : hh.toNat = 0 := by omega
   rw [e1, e2] at hsb
   refine ⟨.slice none 0 0, G, ?_, hI, GLe.refl _ _, .nils⟩
   simp [Instr.sliceAt, run_underlying hu, Instr.slice, hsb, run_sizeOf hs]
 · exact slc h
theorem layParts_sound (place : Nat → Option (Nat × Nat)) : ∀ (parts : List (Nat × AV)) (pv : List (Nat × Value)) (cells : List AV) (arr : Array Value) (r : List AV), pv.length = parts.length →
 (∀ (i : Nat) (p : Nat × AV) (q : Nat × Value), parts[i]? = some p → pv[i]? = some q → q.1 = p.1 ∧ VRel G w p.2 q.2) → arr.size = cells.length →
 (∀ (i : Nat) (c : AV) (v : Value), cells[i]? = some c → arr[i]? = some v → VRel G w c v) → layParts place cells parts = some r →
 ∃ out, Instr.fill place arr pv = some out ∧ out.size = r.length ∧ ∀ (i : Nat) (c : AV) (v : Value), r[i]? = some c → out[i]? = some v → VRel G w c v
 | [], pv, cells, arr, r, hl, hp, hs, hc, h => by
   simp only [layParts, Option.some.injEq] at h
   subst h
   cases pv with
   | nil => exact ⟨arr, rfl, hs, hc⟩
   | cons q pv => simp at hl
 | (i, x) :: parts, pv, cells, arr, r, hl, hp, hs, hc, h => by
   cases pv with
   | nil => simp at hl
   | cons q pv =>
     obtain ⟨i', v⟩ := q
     obtain ⟨h1, h2⟩ := hp 0 (i, x) (i', v) rfl rfl
     simp only at h1 h2
     subst h1
     simp only [layParts] at h
     cases hpl : place i' with
     | none => rw [hpl] at h; simp at h
     | some on =>
     obtain ⟨off, n⟩ := on
     cases hco : cellsOf x with
     | none => rw [hpl, hco] at h; simp at h
     | some cs =>
     rw [hpl, hco] at h
     simp only at h
     split at h
     case isFalse => cases h
     rename_i hn
     split at h
     case isFalse => cases h
     rename_i hfit
     obtain ⟨c1, c2⟩ := cellsOf_rel h2 hco
     have hfold : ∀ (vs : List Value) (k : Nat) (A : Array Value), off + k + vs.length ≤ A.size →
      ((vs.zipIdx k).foldl (fun (cs : Array Value) (p : Value × Nat) => cs.setIfInBounds (off + p.2) p.1) A).size = A.size ∧
      ∀ m, ((vs.zipIdx k).foldl (fun (cs : Array Value) (p : Value × Nat) => cs.setIfInBounds (off + p.2) p.1) A)[m]? = if off + k ≤ m ∧ m < off + k + vs.length then vs[m - (off + k)]? else A[m]? := by
      intro vs
      induction vs with
      | nil => intro k A _; simp; intro m h1 h2; omega
      | cons u vs ih =>
        intro k A hA
        simp only [List.length_cons] at hA
        simp only [List.zipIdx_cons, List.foldl_cons]
        obtain ⟨i1, i2⟩ := ih (k + 1) (A.setIfInBounds (off + k) u) (by rw [Array.size_setIfInBounds]; omega)
        refine ⟨by rw [i1, Array.size_setIfInBounds], fun m => ?_⟩
        rw [i2 m]
        by_cases hm : m = off + k
        · subst hm
          rw [if_neg (by omega), if_pos (by simp)]
          rw [Array.getElem?_setIfInBounds_self_of_lt (by omega)]
          simp
        · rw [Array.getElem?_setIfInBounds_ne (Ne.symm hm)]
          by_cases hin : off + (k + 1) ≤ m ∧ m < off + (k + 1) + vs.length
          · rw [if_pos hin, if_pos (by simp; omega)]
            have : m - (off + k) = m - (off + (k + 1)) + 1 := by omega
            rw [this, List.getElem?_cons_succ]
          · rw [if_neg hin, if_neg (by simp; omega)]
     have hvs : v.cells.size = n := by omega
     obtain ⟨f1, f2⟩ := hfold v.cells.toList 0 arr (by rw [show v.cells.toList.length = v.cells.size from rfl]; omega)
     simp only [Nat.add_zero] at f1 f2
     have hstep := layParts_sound place parts pv (cells.take off ++ cs ++ cells.drop (off + n)) ((v.cells.toList.zipIdx 0).foldl (fun (cs : Array Value) (p : Value × Nat) => cs.setIfInBounds (off + p.2) p.1) arr) r (by simpa using hl)
      (fun j p q h1 h2 => hp (j + 1) p q (by simpa using h1) (by simpa using h2))
      (by rw [f1, hs]; simp; omega)
      (fun j c u hj hu => by
        rw [f2] at hu
        have hto : (cells.take off).length = off := by rw [List.length_take]; omega
        by_cases hj1 : j < off
        · rw [if_neg (by omega)] at hu
          rw [List.append_assoc, List.getElem?_append_left (by omega), List.getElem?_take_of_lt hj1] at hj
          exact hc j c u hj hu
        · rw [List.append_assoc, List.getElem?_append_right (by omega), hto] at hj
          by_cases hj2 : j < off + n
          · rw [if_pos (by rw [show v.cells.toList.length = v.cells.size from rfl]; omega), Array.getElem?_toList] at hu
            rw [List.getElem?_append_left (by omega)] at hj
            exact c2 (j - off) c u hj hu
          · rw [if_neg (by rw [show v.cells.toList.length = v.cells.size from rfl]; omega)] at hu
            rw [List.getElem?_append_right (by omega), List.getElem?_drop] at hj
            have : off + n + (j - off - cs.length) = j := by omega
            rw [this] at hj
            exact hc j c u hj hu)
      h
     obtain ⟨out, o1, o2, o3⟩ := hstep
     refine ⟨out, ?_, o2, o3⟩
     simp only [Instr.fill, hpl]
     rw [if_neg (by simp; omega), ← Array.foldl_toList, Array.toList_zipIdx]
     exact o1
theorem run_places {ty : TypeId} {pl : List (Nat × Nat)} (h : placesT P ty = some pl) : ∃ fs, P.underlying ty = some (.struct fs) ∧ ∀ w, (fs.mapM fun f => do pure (f.offset, ← sizeOf f.type) : Sem (Array (Nat × Nat))).run P w = .ok pl.toArray w := by
 unfold placesT at h
 split at h
 · rename_i fs hu
   refine ⟨fs, hu, fun w => ?_⟩
   rw [Array.mapM_eq_mapM_toList, Sem.run_map]
   have key : ∀ (l : List Field) (pl : List (Nat × Nat)), (l.mapM fun f => (sizeT P f.type).map fun n => (f.offset, n)) = some pl → (l.mapM fun f => do pure (f.offset, ← sizeOf f.type) : Sem (List (Nat × Nat))).run P w = .ok pl w := by
    intro l
    induction l with
    | nil => intro pl h; simp at h; subst h; simp
    | cons f l ih =>
      intro pl h
      simp only [List.mapM_cons, Option.bind_eq_bind, Option.pure_def] at h
      cases hs : sizeT P f.type with
      | none => rw [hs] at h; simp at h
      | some n =>
        rw [hs] at h
        simp only [Option.map_some, Option.bind_some] at h
        cases hr : (l.mapM fun f => (sizeT P f.type).map fun n => (f.offset, n)) with
        | none => rw [hr] at h; simp at h
        | some pl' =>
          rw [hr] at h
          simp only [Option.bind_some, Option.some.injEq] at h
          subst h
          simp only [List.mapM_cons, Sem.run_bind, run_sizeOf hs, Result.andThen_ok, Sem.run_pure, ih pl' hr]
   rw [key _ _ h]
   rfl
 · cases h
theorem zero_val {ty : TypeId} {z : List AV} (h : zeroT P ty = some z) : ∃ i zv, P.info? ty = some i ∧ i.zero = some zv ∧ z = zv.cells.toList.map absV ∧ ∀ w, (zeroValue ty).run P w = .ok zv w := by
 unfold zeroT at h
 cases hi : P.info? ty with
 | none => rw [hi] at h; cases h
 | some i =>
   rw [hi] at h
   cases hz : i.zero with
   | none => simp [hz] at h
   | some zv =>
     simp [hz] at h
     exact ⟨i, zv, rfl, hz, h.symm, fun w => by simp [zeroValue, typeInfo, hi, hz]⟩
theorem zero_rel {zv : Value} (G : Gh) (w : World) (i : Nat) (c : AV) (v : Value) (hc : (zv.cells.toList.map absV)[i]? = some c) (hv : zv.cells[i]? = some v) : VRel G w c v := by
 rw [List.getElem?_map, Array.getElem?_toList, hv] at hc
 simp only [Option.map_some, Option.some.injEq] at hc
 subst hc
 exact absV_rel G w v
end
end Go.Proofs.YtbhgehhmjpipiaaGreatDoor.Ab
