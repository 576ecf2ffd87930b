/- Calls that are handed objects of the caller's to write, and that hand objects back. -/
import Derived.Test.YtbhgehhmjpipiaaGreatDoorAb9
set_option linter.unusedSectionVars false
set_option linter.unusedSimpArgs false
set_option linter.unusedVariables false
namespace Go.Proofs.YtbhgehhmjpipiaaGreatDoor.Ab
open Go Go.RowKit
variable [Inhabited DW]
def startM (N : Nat) (args os : List AV) : Env := ⟨args ++ List.replicate (N - args.length) .any, List.replicate N .any ++ os⟩
def blksOf (G : Gh) (b : Nat) : Prop := ∃ t g, G.ob t = some g ∧ 0 < g.cap ∧ g.base = some ⟨b, 0, none⟩
def SepG (G : Gh) : Prop := ∀ t t' g g', t ≠ t' → G.ob t = some g → G.ob t' = some g' → 0 < g.cap → 0 < g'.cap → g.base ≠ g'.base
def GoodM (P : Program) (f : FuncId) (N : Nat) (os args : List AV) (r : AV) (out : List (Nat × AV)) : Prop :=
 ∀ (w : World) (G : Gh) (vs : Array Value), vs.size = args.length →
  (∀ (i : Nat) (a : AV) (v : Value), args[i]? = some a → vs[i]? = some v → VRel G w a v) →
  (∀ b o, G.pr b o → b < w.heap.size) → Gl G.pr w →
  (∀ t, ObRel G w (fun _ => True) t ((startM N args os).go t)) → SepG G →
  Calls P f vs w fun e w' => ∃ v G', e = .returned v ∧ VRel G' w' r v ∧ GLe G w G' w' ∧
   (∀ b o, b < w.heap.size → ¬ blksOf G b → G'.pr b o → G.pr b o) ∧ (∀ b o, G'.pr b o → b < w'.heap.size) ∧ BelowX ⟨w, blksOf G, G⟩ w' ∧
   (∀ p ∈ out, ObRel G' w' (Bs.own ⟨w, blksOf G, G⟩) p.1 p.2) ∧ SepG G'
def ren1 (m : Nat → Nat → Option (Nat × Nat)) (a : AV) : AV := if a.cellP = true then a else match a with
 | .ref t v => match m t v with
   | some q => .ref q.1 q.2
   | none => .any
 | .loc t v i o => match m t v with
   | some q => .loc q.1 q.2 i o
   | none => .any
 | .win t v k n => match m t v with
   | some q => .win q.1 q.2 k n
   | none => .any
 | _ => .any
def renA (m : Nat → Nat → Option (Nat × Nat)) : AV → AV
 | .agg cs => .agg (cs.map (ren1 m))
 | a => ren1 m a
def ren (m : Nat → Nat → Option (Nat × Nat)) : AV → AV
 | .tup cs => .tup (cs.map (renA m))
 | a => renA m a
def MapOk (m : Nat → Nat → Option (Nat × Nat)) (G H : Gh) : Prop := ∀ t v u v', m t v = some (u, v') → v' ≤ H.cnt u ∧
 ∀ h, H.ob u = some h → h.ver = v' → ∃ g, G.ob t = some g ∧ g.ver = v ∧ g.base = h.base ∧ g.n = h.n ∧ g.cap = h.cap ∧ g.esz = h.esz
section
variable {m : Nat → Nat → Option (Nat × Nat)} {G H : Gh} {w : World}
theorem VRel.ren1 (hm : MapOk m G H) (hpr : ∀ b o, G.pr b o → H.pr b o) {a : AV} {v : Value} (h : VRel G w a v) : VRel H w (ren1 m a) v := by
 unfold Ab.ren1
 by_cases hp : a.cellP = true
 · rw [if_pos hp]; exact h.pure_congr hpr (fun _ _ _ _ h => h) hp
 · rw [if_neg hp]
   cases h with
   | ref t ver v hv h1 h =>
     simp only
     cases hq : m t ver with
     | none => exact .any _
     | some q =>
       obtain ⟨h2, h3⟩ := hm t ver q.1 q.2 (by rw [hq])
       refine .ref _ _ _ h2 h1 (fun k hk he => ?_)
       obtain ⟨g, g1, g2, g3, g4, g5, g6⟩ := h3 k hk he
       rw [h g g1 g2, g3, g4, g5]
   | loc t ver i off v hv h1 h =>
     simp only
     cases hq : m t ver with
     | none => exact .any _
     | some q =>
       obtain ⟨h2, h3⟩ := hm t ver q.1 q.2 (by rw [hq])
       refine .loc _ _ _ _ _ h2 h1 (fun k hk he => ?_)
       obtain ⟨g, g1, g2, g3, g4, g5, g6⟩ := h3 k hk he
       obtain ⟨b, hb, hv⟩ := h g g1 g2
       exact ⟨b, by rw [← g3]; exact hb, by rw [hv, g6]⟩
   | win t ver lo n v hv h1 h =>
     simp only
     cases hq : m t ver with
     | none => exact .any _
     | some q =>
       obtain ⟨h2, h3⟩ := hm t ver q.1 q.2 (by rw [hq])
       refine .win _ _ _ _ _ h2 h1 (fun k hk he => ?_)
       obtain ⟨g, g1, g2, g3, g4, g5, g6⟩ := h3 k hk he
       obtain ⟨A, hv, hc, hb⟩ := h g g1 g2
       exact ⟨A, by rw [hv, g5], by rw [← g5]; exact hc, fun hlt => by rw [← g3, ← g6]; exact hb (by rw [g5]; exact hlt)⟩
   | _ => exact .any _
theorem VRel.renA (hm : MapOk m G H) (hpr : ∀ b o, G.pr b o → H.pr b o) {a : AV} {v : Value} (h : VRel G w a v) : VRel H w (renA m a) v := by
 cases a with
 | agg cs =>
   cases h with
   | agg _ vs hn hh =>
     refine .agg _ _ (by simp [hn]) fun i c u h1 h2 => ?_
     rw [List.getElem?_map] at h1
     cases hc : cs[i]? with
     | none => rw [hc] at h1; cases h1
     | some c0 =>
       rw [hc] at h1
       simp only [Option.map_some, Option.some.injEq] at h1
       subst h1
       exact (hh i c0 u hc h2).ren1 hm hpr
 | _ => exact h.ren1 hm hpr
theorem VRel.ren (hm : MapOk m G H) (hpr : ∀ b o, G.pr b o → H.pr b o) {a : AV} {v : Value} (h : VRel G w a v) : VRel H w (ren m a) v := by
 cases a with
 | tup cs =>
   cases h with
   | tup _ vs hn hh =>
     refine .tup _ _ (by simp [hn]) fun i c u h1 h2 => ?_
     rw [List.getElem?_map] at h1
     cases hc : cs[i]? with
     | none => rw [hc] at h1; cases h1
     | some c0 =>
       rw [hc] at h1
       simp only [Option.map_some, Option.some.injEq] at h1
       subst h1
       exact (hh i c0 u hc h2).renA hm hpr
 | _ => exact h.renA hm hpr
def renObj (m : Nat → Nat → Option (Nat × Nat)) (v : Nat) : AV → AV
 | .obj _ ty esz fz true xs => .obj v ty esz fz true xs
 | .obj _ ty esz fz false xs => .obj v ty esz fz false (xs.map (·.map (ren1 m)))
 | _ => .dead v
def verOf : AV → Nat
 | .obj v .. => v
 | .dead v => v
 | _ => 0
theorem ObRel.ren {B B' : Nat → Prop} {t u v : Nat} {a : AV} {v0 : Nat} {ty : TypeId} {esz : Nat} {fz pu : Bool} {xs : List (List AV)} (ha : a = .obj v0 ty esz fz pu xs)
 (h : ObRel G w B t a) (hm : MapOk m G H) (hpr : ∀ b o, G.pr b o ↔ H.pr b o) (hcnt : H.cnt u = v) (hob : ∀ g, G.ob t = some g → H.ob u = some { g with ver := v }) (hB : ∀ g b, G.ob t = some g → 0 < g.cap → g.base = some ⟨b, 0, none⟩ → B b → B' b) :
 ObRel H w B' u (renObj m v a) := by
 subst ha
 obtain ⟨h1, h2, h3, g, h4, h5, h6, h7, h8⟩ := h
 cases pu with
 | true =>
   refine ⟨hcnt, h2, h3, { g with ver := v }, hob g h4, rfl, h6, h7, ?_⟩
   rcases h8 with ⟨q1, q2⟩ | ⟨blk, cs, k1, k2, k3, k4, k5, k6, k7, k8, k9⟩
   · exact .inl ⟨q1, q2⟩
   · refine .inr ⟨blk, cs, k1, hB g blk h4 k7 k1 k2, k3, k4, k5, k6, k7, fun i j x c q1 q2 => ?_, fun o ho => k9 o ((hpr _ _).2 ho)⟩
     obtain ⟨vv, hv, hr⟩ := k8 i j x c q1 q2
     exact ⟨vv, hv, hr.pure_congr (fun b o h => (hpr b o).1 h) (fun _ _ _ _ h => h) (h2 rfl x (List.mem_of_getElem? q1) c (List.mem_of_getElem? q2))⟩
 | false =>
   have get : ∀ {i j : Nat} {x : List AV} {c : AV}, (xs.map (·.map (Ab.ren1 m)))[i]? = some x → x[j]? = some c → ∃ x0 c0, xs[i]? = some x0 ∧ x0[j]? = some c0 ∧ c = Ab.ren1 m c0 := fun {i j x c} q1 q2 => by
    rw [List.getElem?_map] at q1
    cases hx : xs[i]? with
    | none => rw [hx] at q1; cases q1
    | some x0 =>
      rw [hx] at q1
      simp only [Option.map_some, Option.some.injEq] at q1
      subst q1
      rw [List.getElem?_map] at q2
      cases hc : x0[j]? with
      | none => rw [hc] at q2; cases q2
      | some c0 =>
        rw [hc] at q2
        simp only [Option.map_some, Option.some.injEq] at q2
        exact ⟨x0, c0, rfl, hc, q2.symm⟩
   refine ⟨hcnt, (fun hp => by cases hp), (fun x hx => ?_), { g with ver := v }, hob g h4, rfl, by simpa using h6, h7, ?_⟩
   · simp only [List.mem_map] at hx
     obtain ⟨x0, hx0, rfl⟩ := hx
     simpa using h3 x0 hx0
   · rcases h8 with ⟨q1, q2⟩ | ⟨blk, cs, k1, k2, k3, k4, k5, k6, k7, k8, k9⟩
     · exact .inl ⟨q1, by rw [q2]; rfl⟩
     · refine .inr ⟨blk, cs, k1, hB g blk h4 k7 k1 k2, k3, by simpa using k4, k5, k6, k7, fun i j x c q1 q2 => ?_, fun o ho => by simpa using k9 o ((hpr _ _).2 ho)⟩
       obtain ⟨x0, c0, p1, p2, rfl⟩ := get q1 q2
       obtain ⟨vv, hv, hr⟩ := k8 i j x0 c0 p1 p2
       exact ⟨vv, hv, hr.ren1 hm fun b o h => (hpr b o).1 h⟩
end
def posOf : List Nat → Nat → Nat → Option Nat
 | [], _, _ => none
 | x :: xs, u, i => if x = u then some i else posOf xs u (i + 1)
def invM (e : Env) (N : Nat) (us : List Nat) (u v : Nat) : Option (Nat × Nat) := if v = verOf (e.go u) then match posOf us u N with
 | some t => some (t, 1)
 | none => none
 else none
def newVer (e : Env) (N k t : Nat) (o : AV) (u : Nat) : Nat := if N ≤ t then if t < N + k then if verOf o = 1 then verOf (e.go u) else nextVer (e.go u) else nextVer (e.go u) else nextVer (e.go u)
def fwdM (e : Env) (N k : Nat) : List (Nat × AV) → List Nat → Nat → Nat → Option (Nat × Nat)
 | p :: out, u :: tg, t, v => if p.1 = t then if verOf p.2 = v then some (u, newVer e N k p.1 p.2 u) else fwdM e N k out tg t v else fwdM e N k out tg t v
 | _, _, _, _ => none
def outAt : List (Nat × AV) → List Nat → Nat → Option (Nat × AV)
 | p :: out, x :: tg, u => if x = u then some p else outAt out tg u
 | _, _, _ => none
def killsM (e : Env) : List Nat → Ws
 | [] => []
 | u :: us => (.o u, .dead (verOf (e.go u))) :: killsM e us
def outsM (e : Env) (m : Nat → Nat → Option (Nat × Nat)) (N k : Nat) : List (Nat × AV) → List Nat → Ws
 | p :: out, u :: tg => (.o u, renObj m (newVer e N k p.1 p.2 u) p.2) :: outsM e m N k out tg
 | _, _ => []
def isObj : AV → Bool
 | .obj .. => true
 | _ => false
structure MC where
 N : Nat
 us : List Nat
 os : List AV
 args : List AV
 r : AV
 out : List (Nat × AV)
 tg : List Nat
def MC.fwd (d : MC) (e : Env) : Nat → Nat → Option (Nat × Nat) := fwdM e d.N d.us.length d.out d.tg
def MC.ws (d : MC) (e : Env) : Ws := killsM e d.us ++ outsM e (d.fwd e) d.N d.us.length d.out d.tg
def MC.res (d : MC) (e : Env) : AV := ren (d.fwd e) d.r
def staysM (N : Nat) (us : List Nat) : List (Nat × AV) → List Nat → Bool
 | p :: out, u :: tg => (!(decide (N ≤ p.1) && decide (p.1 < N + us.length) && decide (verOf p.2 = 1)) || decide (us[p.1 - N]? = some u)) && staysM N us out tg
 | _, _ => true
structure MC.Fits (d : MC) (e : Env) (as : List AV) : Prop where
 args : as.map (renA (invM e d.N d.us)) = d.args
 os : d.us.map (fun u => renObj (invM e d.N d.us) 1 (e.go u)) = d.os
 objs : d.us.all (fun u => isObj (e.go u)) = true
 nodup : d.us.Nodup
 lt : ∀ u ∈ d.us, u < e.o.length
 tnodup : d.tg.Nodup
 tlt : ∀ u ∈ d.tg, u < e.o.length
 tlen : d.tg.length = d.out.length
 outs : d.out.all (fun p => isObj p.2) = true
 stays : staysM d.N d.us d.out d.tg = true
 onodup : ∀ (k k' : Nat) (p p' : Nat × AV), d.out[k]? = some p → d.out[k']? = some p' → p.1 = p'.1 → k = k'
def ment1 : AV → List Nat
 | .ref t _ => [t]
 | .loc t _ _ _ => [t]
 | .win t _ _ _ => [t]
 | _ => []
def ment : AV → List Nat
 | .agg cs => cs.flatMap ment1
 | a => ment1 a
structure MC.FitsD (d : MC) (e : Env) (as : List AV) (dst : Option Nat) : Prop where
 args : as.map (renA (invM e d.N d.us)) = d.args
 os : d.us.map (fun u => renObj (invM e d.N d.us) 1 (e.go u)) = d.os
 objs : d.us.all (fun u => isObj (e.go u)) = true
 nodup : d.us.Nodup
 usIn : ∀ u ∈ d.us, ∃ a ∈ as, u ∈ ment a
 tnodup : d.tg.Nodup
 tgIn : ∀ u ∈ d.tg, u ∈ d.us ∨ dst = some u
 tlen : d.tg.length = d.out.length
 outs : d.out.all (fun p => isObj p.2) = true
 stays : staysM d.N d.us d.out d.tg = true
 onodup : ∀ (k k' : Nat) (p p' : Nat × AV), d.out[k]? = some p → d.out[k']? = some p' → p.1 = p'.1 → k = k'
theorem go_lt {e : Env} {u : Nat} (h : isObj (e.go u) = true) : u < e.o.length := by
 rcases Nat.lt_or_ge u e.o.length with h1 | h1
 · exact h1
 · simp [Env.go, List.getD_eq_getElem?_getD, List.getElem?_eq_none h1, isObj] at h
theorem MC.FitsD.fits {d : MC} {e : Env} {as : List AV} {dst : Option Nat} (h : d.FitsD e as dst) (hdl : ∀ u, dst = some u → u < e.o.length) : d.Fits e as where
 args := h.args
 os := h.os
 objs := h.objs
 nodup := h.nodup
 lt u hu := go_lt (List.all_eq_true.1 h.objs u hu)
 tnodup := h.tnodup
 tlt u hu := (h.tgIn u hu).elim (fun q => go_lt (List.all_eq_true.1 h.objs u q)) fun q => hdl u q
 tlen := h.tlen
 outs := h.outs
 stays := h.stays
 onodup := h.onodup
theorem posOf_none : ∀ (us : List Nat) (u i : Nat), u ∉ us → posOf us u i = none
 | [], u, i, _ => rfl
 | x :: xs, u, i, h => by
   simp only [posOf]
   rw [if_neg (fun q => h (by rw [q]; exact List.mem_cons_self ..))]
   exact posOf_none xs u (i + 1) fun q => h (List.mem_cons_of_mem _ q)
theorem invM_loc {e e' : Env} {N : Nat} {us : List Nat} (h : ∀ u ∈ us, e.go u = e'.go u) : invM e N us = invM e' N us := by
 funext u v
 unfold invM
 by_cases hu : u ∈ us
 · rw [h u hu]
 · rw [posOf_none us u N hu]; simp
theorem newVer_loc {e e' : Env} {N k t u : Nat} {o : AV} (h : e.go u = e'.go u) : newVer e N k t o u = newVer e' N k t o u := by
 unfold newVer; rw [h]
theorem fwdM_loc {e e' : Env} {N k : Nat} : ∀ {out : List (Nat × AV)} {tg : List Nat}, (∀ u ∈ tg, e.go u = e'.go u) → fwdM e N k out tg = fwdM e' N k out tg
 | [], _, _ => by funext t v; simp [fwdM]
 | _ :: _, [], _ => by funext t v; simp [fwdM]
 | p :: out, u :: tg, h => by
   funext t v
   simp only [fwdM]
   rw [fwdM_loc fun x hx => h x (List.mem_cons_of_mem _ hx), newVer_loc (h u (List.mem_cons_self ..))]
theorem killsM_loc {e e' : Env} : ∀ {us : List Nat}, (∀ u ∈ us, e.go u = e'.go u) → killsM e us = killsM e' us
 | [], _ => rfl
 | u :: us, h => by
   simp only [killsM]
   rw [h u (List.mem_cons_self ..), killsM_loc fun x hx => h x (List.mem_cons_of_mem _ hx)]
theorem outsM_loc {e e' : Env} {m : Nat → Nat → Option (Nat × Nat)} {N k : Nat} : ∀ {out : List (Nat × AV)} {tg : List Nat}, (∀ u ∈ tg, e.go u = e'.go u) → outsM e m N k out tg = outsM e' m N k out tg
 | [], _, _ => by simp [outsM]
 | _ :: _, [], _ => by simp [outsM]
 | p :: out, u :: tg, h => by
   simp only [outsM]
   rw [newVer_loc (h u (List.mem_cons_self ..)), outsM_loc fun x hx => h x (List.mem_cons_of_mem _ hx)]
theorem MC.FitsD.loc {d : MC} {e e' : Env} {as : List AV} {dst : Option Nat} (h : d.FitsD e as dst) (hgo : ∀ a ∈ as, ∀ t ∈ ment a, e.go t = e'.go t) (hd : ∀ u, dst = some u → e.go u = e'.go u) :
 d.FitsD e' as dst ∧ d.ws e' = d.ws e ∧ d.res e' = d.res e := by
 have hus : ∀ u ∈ d.us, e.go u = e'.go u := fun u hu => by
  obtain ⟨a, ha, hm⟩ := h.usIn u hu
  exact hgo a ha u hm
 have htg : ∀ u ∈ d.tg, e.go u = e'.go u := fun u hu => (h.tgIn u hu).elim (hus u) (hd u)
 have hinv : invM e d.N d.us = invM e' d.N d.us := invM_loc hus
 have hfw : d.fwd e = d.fwd e' := fwdM_loc htg
 refine ⟨?_, ?_, ?_⟩
 · exact {
    args := by rw [← hinv]; exact h.args
    os := by
     rw [← hinv, ← h.os]
     exact List.map_congr_left fun u hu => by rw [hus u hu]
    objs := by
     rw [List.all_eq_true]
     intro u hu
     rw [← hus u hu]
     exact List.all_eq_true.1 h.objs u hu
    nodup := h.nodup
    usIn := h.usIn
    tnodup := h.tnodup
    tgIn := h.tgIn
    tlen := h.tlen
    outs := h.outs
    stays := h.stays
    onodup := h.onodup }
 · unfold MC.ws
   rw [← hfw, killsM_loc hus, outsM_loc htg]
 · unfold MC.res
   rw [hfw]
theorem posOf_spec : ∀ (us : List Nat) (u i t : Nat), posOf us u i = some t → ∃ k, us[k]? = some u ∧ t = i + k
 | [], u, i, t, h => by cases h
 | x :: xs, u, i, t, h => by
   simp only [posOf] at h
   split at h
   · rename_i hx; cases h; exact ⟨0, by simp [hx], by omega⟩
   · obtain ⟨k, h1, h2⟩ := posOf_spec xs u (i + 1) t h
     exact ⟨k + 1, by simpa using h1, by omega⟩
theorem outAt_spec : ∀ (out : List (Nat × AV)) (tg : List Nat) (u : Nat) (p : Nat × AV), outAt out tg u = some p → ∃ k : Nat, out[k]? = some p ∧ tg[k]? = some u
 | [], _, u, p, h => by simp [outAt] at h
 | _ :: _, [], u, p, h => by simp [outAt] at h
 | q :: out, x :: tg, u, p, h => by
   simp only [outAt] at h
   split at h
   · rename_i hx; cases h; exact ⟨0, rfl, by simp [hx]⟩
   · obtain ⟨k, h1, h2⟩ := outAt_spec out tg u p h
     exact ⟨k + 1, by simpa using h1, by simpa using h2⟩
theorem outAt_of : ∀ (out : List (Nat × AV)) (tg : List Nat) (k u : Nat) (p : Nat × AV), tg.Nodup → out[k]? = some p → tg[k]? = some u → outAt out tg u = some p
 | [], _, k, u, p, _, h, _ => by simp at h
 | _ :: _, [], k, u, p, _, _, h => by simp at h
 | q :: out, x :: tg, 0, u, p, _, h1, h2 => by
   simp at h1 h2; subst h1 h2; simp [outAt]
 | q :: out, x :: tg, k + 1, u, p, hn, h1, h2 => by
   simp only [List.getElem?_cons_succ] at h1 h2
   have hm := List.mem_of_getElem? h2
   have hne : x ≠ u := fun h => (List.nodup_cons.1 hn).1 (h ▸ hm)
   simp only [outAt, if_neg hne]
   exact outAt_of out tg k u p (List.nodup_cons.1 hn).2 h1 h2
theorem fwdM_spec {e : Env} {N n : Nat} : ∀ (out : List (Nat × AV)) (tg : List Nat) (t v u v' : Nat), fwdM e N n out tg t v = some (u, v') → ∃ (k : Nat) (o : AV), out[k]? = some (t, o) ∧ tg[k]? = some u ∧ verOf o = v ∧ v' = newVer e N n t o u
 | [], _, t, v, u, v', h => by simp [fwdM] at h
 | _ :: _, [], t, v, u, v', h => by simp [fwdM] at h
 | p :: out, x :: tg, t, v, u, v', h => by
   simp only [fwdM] at h
   split at h
   · rename_i hp
     split at h
     · rename_i hv
       simp only [Option.some.injEq, Prod.mk.injEq] at h
       obtain ⟨rfl, rfl⟩ := h
       subst hp
       exact ⟨0, p.2, rfl, rfl, hv, rfl⟩
     · obtain ⟨k, o, h1, h2, h3⟩ := fwdM_spec out tg t v u v' h
       exact ⟨k + 1, o, by simpa using h1, by simpa using h2, h3⟩
   · obtain ⟨k, o, h1, h2, h3⟩ := fwdM_spec out tg t v u v' h
     exact ⟨k + 1, o, by simpa using h1, by simpa using h2, h3⟩
theorem staysM_spec {N : Nat} {us : List Nat} : ∀ (out : List (Nat × AV)) (tg : List Nat) (k t u : Nat) (o : AV), staysM N us out tg = true → out[k]? = some (t, o) → tg[k]? = some u → N ≤ t → t < N + us.length → verOf o = 1 → us[t - N]? = some u
 | [], _, k, t, u, o, _, h, _, _, _, _ => by simp at h
 | _ :: _, [], k, t, u, o, _, _, h, _, _, _ => by simp at h
 | p :: out, x :: tg, 0, t, u, o, h, h1, h2, a, b, c => by
   simp at h1 h2; subst h1 h2
   simp only [staysM, Bool.and_eq_true, Bool.or_eq_true] at h
   rcases h.1 with h | h
   · simp [a, b, c] at h
   · simpa using h
 | p :: out, x :: tg, k + 1, t, u, o, h, h1, h2, a, b, c => by
   simp only [staysM, Bool.and_eq_true] at h
   exact staysM_spec out tg k t u o h.2 (by simpa using h1) (by simpa using h2) a b c
theorem puts_kills : ∀ (us : List Nat) (e0 e : Env) (x : Nat), (∀ u ∈ us, u < e.o.length) → (e.puts (killsM e0 us)).go x = (if x ∈ us then .dead (verOf (e0.go x)) else e.go x) ∧ (e.puts (killsM e0 us)).s = e.s
 | [], e0, e, x, _ => by simp [killsM, Env.puts]
 | u :: us, e0, e, x, h => by
   have ih := puts_kills us e0 (e.put (.o u) (.dead (verOf (e0.go u)))) x (fun v hv => by simpa using h v (List.mem_cons_of_mem _ hv))
   simp only [killsM, Env.puts]
   refine ⟨?_, ih.2⟩
   rw [ih.1]
   by_cases hx : x ∈ us
   · simp [hx]
   · rw [if_neg hx, Env.go_put_o]
     by_cases hxu : u = x
     · subst hxu
       rw [if_pos ⟨rfl, h u (List.mem_cons_self ..)⟩, if_pos (List.mem_cons_self ..)]
     · rw [if_neg (fun q => hxu q.1), if_neg (fun q => (List.mem_cons.1 q).elim (fun q => hxu q.symm) hx)]
theorem puts_outs {e0 : Env} {m : Nat → Nat → Option (Nat × Nat)} {N n : Nat} : ∀ (out : List (Nat × AV)) (tg : List Nat) (e : Env) (x : Nat), tg.Nodup → (∀ u ∈ tg, u < e.o.length) →
 (e.puts (outsM e0 m N n out tg)).go x = (match outAt out tg x with | some p => renObj m (newVer e0 N n p.1 p.2 x) p.2 | none => e.go x) ∧ (e.puts (outsM e0 m N n out tg)).s = e.s
 | [], tg, e, x, _, _ => by simp [outsM, outAt, Env.puts]
 | _ :: _, [], e, x, _, _ => by simp [outsM, outAt, Env.puts]
 | p :: out, u :: tg, e, x, hn, h => by
   have ih := puts_outs (e0 := e0) (m := m) (N := N) (n := n) out tg (e.put (.o u) (renObj m (newVer e0 N n p.1 p.2 u) p.2)) x (List.nodup_cons.1 hn).2 (fun v hv => by simpa using h v (List.mem_cons_of_mem _ hv))
   simp only [outsM, Env.puts, outAt]
   refine ⟨?_, ih.2⟩
   rw [ih.1]
   by_cases hxu : u = x
   · subst hxu
     have hno : outAt out tg u = none := by
      cases hq : outAt out tg u with
      | none => rfl
      | some q =>
        obtain ⟨k, -, h2⟩ := outAt_spec out tg u q hq
        exact absurd (List.mem_of_getElem? h2) (List.nodup_cons.1 hn).1
     rw [hno, if_pos rfl]
     simp only
     rw [Env.go_put_o, if_pos ⟨rfl, h u (List.mem_cons_self ..)⟩]
   · rw [if_neg hxu]
     cases outAt out tg x with
     | some q => rfl
     | none => simp only; rw [Env.go_put_o, if_neg (fun q => hxu q.1)]
section
variable {P : Program} {w0 : Bs} {Pr0 : Nat → Nat → Prop} {G : Gh} {e : Env} {tm : Array Value} {w : World}
theorem isObj_eq {a : AV} (h : isObj a = true) : ∃ v ty esz fz pu xs, a = .obj v ty esz fz pu xs := by
 cases a <;> simp [isObj] at h
 exact ⟨_, _, _, _, _, _, rfl⟩
def ghM (G : Gh) (N : Nat) (us : List Nat) : Gh where
 pr := G.pr
 ob t := if N ≤ t then match us[t - N]? with
  | some u => (G.ob u).map fun g => { g with ver := 1 }
  | none => none
  else none
 cnt t := if N ≤ t then if t < N + us.length then 1 else 0 else 0
theorem ghM_ob {N : Nat} {us : List Nat} {t : Nat} {g : Ob} (h : (ghM G N us).ob t = some g) : ∃ k u g0, t = N + k ∧ us[k]? = some u ∧ G.ob u = some g0 ∧ g = { g0 with ver := 1 } := by
 simp only [ghM] at h
 split at h
 · rename_i hN
   cases hu : us[t - N]? with
   | none => rw [hu] at h; cases h
   | some u =>
     rw [hu] at h
     simp only [Option.map_eq_some_iff] at h
     obtain ⟨g0, h1, h2⟩ := h
     exact ⟨t - N, u, g0, by omega, hu, h1, h2.symm⟩
 · cases h
theorem ghM_at {N : Nat} {us : List Nat} {k u : Nat} (h : us[k]? = some u) : (ghM G N us).ob (N + k) = (G.ob u).map (fun g => { g with ver := 1 }) ∧ (ghM G N us).cnt (N + k) = 1 := by
 have hk : k < us.length := (List.getElem?_eq_some_iff.1 h).1
 simp only [ghM]
 rw [if_pos (by omega), show N + k - N = k by omega, h, if_pos (by omega), if_pos (by omega)]
 exact ⟨rfl, rfl⟩
theorem Inv.atObj (hI : Inv w0 Pr0 G e tm w) {u : Nat} (h : isObj (e.go u) = true) : ∃ g, G.ob u = some g ∧ g.ver = verOf (e.go u) ∧ G.cnt u = verOf (e.go u) := by
 have ho := hI.objs u
 obtain ⟨v, ty, esz, fz, pu, xs, he⟩ := isObj_eq h
 rw [he] at ho ⊢
 obtain ⟨h1, -, -, g, h4, h5, -⟩ := ho
 exact ⟨g, h4, h5, h1⟩
theorem Inv.callee (hI : Inv w0 Pr0 G e tm w) {d : MC} {as : List AV} (hf : d.Fits e as) :
 MapOk (invM e d.N d.us) G (ghM G d.N d.us) ∧ SepG (ghM G d.N d.us) ∧ (∀ t, ObRel (ghM G d.N d.us) w (fun _ => True) t ((startM d.N d.args d.os).go t)) ∧
  (∀ b, blksOf (ghM G d.N d.us) b → w0.own b ∧ b < w.heap.size ∧ ∃ u g, u ∈ d.us ∧ G.ob u = some g ∧ 0 < g.cap ∧ g.base = some ⟨b, 0, none⟩) := by
 have hobj : ∀ {k u : Nat}, d.us[k]? = some u → isObj (e.go u) = true := fun h => List.all_eq_true.1 hf.objs _ (List.mem_of_getElem? h)
 have hm : MapOk (invM e d.N d.us) G (ghM G d.N d.us) := fun u v t v' h => by
  simp only [invM] at h
  split at h
  · rename_i hv
    cases hp : posOf d.us u d.N with
    | none => rw [hp] at h; cases h
    | some t' =>
      rw [hp] at h
      simp only [Option.some.injEq, Prod.mk.injEq] at h
      obtain ⟨rfl, rfl⟩ := h
      obtain ⟨k, h1, rfl⟩ := posOf_spec _ _ _ _ hp
      obtain ⟨h2, h3⟩ := ghM_at (G := G) (N := d.N) h1
      obtain ⟨g, q1, q2, q3⟩ := hI.atObj (hobj h1)
      refine ⟨by rw [h3]; exact Nat.le_refl _, fun x hx _ => ?_⟩
      rw [h2, q1] at hx
      simp only [Option.map_some, Option.some.injEq] at hx
      subst hx
      exact ⟨g, q1, by rw [q2, hv], rfl, rfl, rfl, rfl⟩
  · cases h
 refine ⟨hm, fun t t' g g' hne h1 h2 c1 c2 => ?_, fun t => ?_, fun b ⟨t, g, h1, h2, h3⟩ => ?_⟩
 · obtain ⟨k, u, g0, rfl, hk, hg, rfl⟩ := ghM_ob h1
   obtain ⟨k', u', g0', rfl, hk', hg', rfl⟩ := ghM_ob h2
   refine hI.sep u u' g0 g0' (fun hu => hne ?_) hg hg' c1 c2
   subst hu
   have hl := (List.getElem?_eq_some_iff.1 hk)
   have hl' := (List.getElem?_eq_some_iff.1 hk')
   obtain ⟨a1, a2⟩ := hl
   obtain ⟨b1, b2⟩ := hl'
   have := (List.getElem_inj (h₀ := a1) (h₁ := b1) hf.nodup).1 (by rw [a2, b2])
   omega
 · by_cases ht : t < d.N
   · have : (startM d.N d.args d.os).go t = .any := by
      simp only [startM, Env.go, List.getD_eq_getElem?_getD]
      rw [List.getElem?_append_left (by simpa using ht), List.getElem?_replicate, if_pos ht]; rfl
     rw [this]
     exact ⟨by simp only [ghM]; rw [if_neg (by omega)], by simp only [ghM]; rw [if_neg (by omega)]⟩
   · cases hk : d.us[t - d.N]? with
     | none =>
       have hl : d.us.length ≤ t - d.N := List.getElem?_eq_none_iff.1 hk
       have hol : d.os.length = d.us.length := by rw [← hf.os]; simp
       have : (startM d.N d.args d.os).go t = .any := by
        simp only [startM, Env.go, List.getD_eq_getElem?_getD]
        rw [List.getElem?_eq_none (by simp; omega)]; rfl
       rw [this]
       refine ⟨?_, ?_⟩
       · simp only [ghM]; rw [if_pos (by omega), if_neg (by omega)]
       · simp only [ghM]; rw [if_pos (by omega), hk]
     | some u =>
       have : (startM d.N d.args d.os).go t = renObj (invM e d.N d.us) 1 (e.go u) := by
        simp only [startM, Env.go, List.getD_eq_getElem?_getD]
        rw [List.getElem?_append_right (by simp; omega), List.length_replicate, ← hf.os, List.getElem?_map, hk]
        rfl
       rw [this]
       obtain ⟨h2, h3⟩ := ghM_at (G := G) (N := d.N) hk
       rw [show d.N + (t - d.N) = t by omega] at h2 h3
       obtain ⟨v, ty, esz, fz, pu, xs, he⟩ := isObj_eq (hobj hk)
       exact ObRel.ren he (hI.objs u) hm (fun _ _ => Iff.rfl) h3 (fun g hg => by rw [h2, hg]; rfl) (fun _ _ _ _ _ _ => trivial)
 · obtain ⟨k, u, g0, rfl, hk, hg, rfl⟩ := ghM_ob h1
   obtain ⟨blk, q1, q2, q3⟩ := hI.based hg h2
   rw [q1] at h3; cases h3
   exact ⟨q3, q2, u, g0, List.mem_of_getElem? hk, hg, h2, q1⟩
def ghB (G G' : Gh) (e : Env) (d : MC) : Gh where
 pr := G'.pr
 ob u := match outAt d.out d.tg u with
  | some p => (G'.ob p.1).map fun g => { g with ver := newVer e d.N d.us.length p.1 p.2 u }
  | none => if u ∈ d.us then none else G.ob u
 cnt u := match outAt d.out d.tg u with
  | some p => newVer e d.N d.us.length p.1 p.2 u
  | none => G.cnt u
theorem newVer_eq (e : Env) (N k t : Nat) (o : AV) (u : Nat) : (newVer e N k t o u = verOf (e.go u) ∧ N ≤ t ∧ t < N + k ∧ verOf o = 1) ∨ newVer e N k t o u = nextVer (e.go u) := by
 unfold newVer
 split
 · split
   · split
     · exact .inl ⟨rfl, by assumption, by assumption, by assumption⟩
     · exact .inr rfl
   · exact .inr rfl
 · exact .inr rfl
theorem Inv.calleeBack (hI : Inv w0 Pr0 G e tm w) {d : MC} {as : List AV} (hf : d.Fits e as) {w' : World} {G' : Gh} (hle : GLe (ghM G d.N d.us) w G' w')
 (hpr : ∀ b o, b < w.heap.size → ¬ blksOf (ghM G d.N d.us) b → G'.pr b o → (ghM G d.N d.us).pr b o) (hpl : ∀ b o, G'.pr b o → b < w'.heap.size) (hb : BelowX ⟨w, blksOf (ghM G d.N d.us), ghM G d.N d.us⟩ w')
 (hout : ∀ p ∈ d.out, ObRel G' w' (Bs.own ⟨w, blksOf (ghM G d.N d.us), ghM G d.N d.us⟩) p.1 p.2) (hsep : SepG G') :
 Inv w0 Pr0 (ghB G G' e d) (e.puts (d.ws e)) tm w' ∧ MapOk (d.fwd e) G' (ghB G G' e d) := by
 obtain ⟨hm0, hs0, ho0, hblk⟩ := hI.callee hf
 have hB : w0.w.heap.size ≤ w.heap.size := hI.below.size
 have hat : ∀ {u : Nat} {p : Nat × AV}, outAt d.out d.tg u = some p → ∃ g, G'.ob p.1 = some g ∧ g.ver = verOf p.2 ∧ isObj p.2 = true ∧ p ∈ d.out := fun {u p} h => by
  obtain ⟨k, h1, h2⟩ := outAt_spec _ _ _ _ h
  have hmem := List.mem_of_getElem? h1
  have hio := List.all_eq_true.1 hf.outs p hmem
  have hr := hout p hmem
  obtain ⟨v, ty, esz, fz, pu, xs, he⟩ := isObj_eq hio
  rw [he] at hr ⊢
  obtain ⟨-, -, -, g, h4, h5, -⟩ := hr
  exact ⟨g, h4, h5, rfl, hmem⟩
 have hstay : ∀ {u : Nat} {p : Nat × AV}, outAt d.out d.tg u = some p → d.N ≤ p.1 → p.1 < d.N + d.us.length → verOf p.2 = 1 → d.us[p.1 - d.N]? = some u := fun {u p} h a b c => by
  obtain ⟨k, h1, h2⟩ := outAt_spec _ _ _ _ h
  exact staysM_spec _ _ k p.1 u p.2 hf.stays h1 h2 a b c
 have hsame : ∀ {u : Nat} {p : Nat × AV} {g : Ob}, outAt d.out d.tg u = some p → G'.ob p.1 = some g → newVer e d.N d.us.length p.1 p.2 u = nextVer (e.go u) ∨ ∃ g0, G.ob u = some g0 ∧ { g with ver := newVer e d.N d.us.length p.1 p.2 u } = g0 ∧ newVer e d.N d.us.length p.1 p.2 u = G.cnt u := fun {u p g} h hg => by
  rcases newVer_eq e d.N d.us.length p.1 p.2 u with ⟨h1, a, b, c⟩ | h1
  · refine .inr ?_
    have hu := hstay h a b c
    obtain ⟨h2, h3⟩ := ghM_at (G := G) (N := d.N) hu
    rw [show d.N + (p.1 - d.N) = p.1 by omega] at h2 h3
    obtain ⟨g0, q1, q2, q3⟩ := hI.atObj (List.all_eq_true.1 hf.objs _ (List.mem_of_getElem? hu))
    obtain ⟨g1, r1, r2, -⟩ := hat h
    rw [hg] at r1; cases r1
    rcases hle.ob p.1 g hg with h4 | h4
    · rw [h3, r2, c] at h4; omega
    · rw [h2, q1] at h4
      simp only [Option.map_some, Option.some.injEq] at h4
      refine ⟨g0, q1, ?_, by rw [h1, q3]⟩
      rw [← h4, h1, ← q2]
  · exact .inl h1
 have hmok : MapOk (d.fwd e) G' (ghB G G' e d) := fun t v u v' h => by
  obtain ⟨k, o, h1, h2, h3, h4⟩ := fwdM_spec _ _ _ _ _ _ h
  have hoa := outAt_of _ _ k u (t, o) hf.tnodup h1 h2
  obtain ⟨g, q1, q2, -⟩ := hat hoa
  simp only at q1 q2
  refine ⟨by simp only [ghB, hoa]; rw [h4]; exact Nat.le_refl _, fun x hx hv => ?_⟩
  simp only [ghB, hoa, q1, Option.map_some, Option.some.injEq] at hx
  subst hx
  exact ⟨g, q1, by rw [q2, h3], rfl, rfl, rfl, rfl⟩
 have hleG : GLe G w (ghB G G' e d) w' := by
  refine ⟨fun b o h => hle.pr b o h, fun u => ?_, fun u g hg => ?_, fun b o v hp hc => hle.cell b o v hp hc⟩
  · simp only [ghB]
    cases ho : outAt d.out d.tg u with
    | none => exact Nat.le_refl _
    | some p =>
      obtain ⟨g, q1, -⟩ := hat ho
      rcases hsame ho q1 with h | ⟨g0, -, -, h⟩
      · simp only; rw [h, (hI.objs u).cnt_next]; omega
      · simp only; rw [h]; exact Nat.le_refl _
  · simp only [ghB] at hg
    cases ho : outAt d.out d.tg u with
    | none =>
      rw [ho] at hg
      simp only at hg
      split at hg
      · cases hg
      · exact .inr hg
    | some p =>
      obtain ⟨g1, q1, -⟩ := hat ho
      rw [ho] at hg
      simp only [q1, Option.map_some, Option.some.injEq] at hg
      rcases hsame ho q1 with h | ⟨g0, r1, r2, r3⟩
      · left; rw [← hg]; simp only; rw [h, (hI.objs u).cnt_next]; omega
      · right; rw [r1, ← r2, hg]
 have hown : ∀ b, Bs.own ⟨w, blksOf (ghM G d.N d.us), ghM G d.N d.us⟩ b → w0.own b := fun b h => by
  rcases h with h | h
  · exact .inl (Nat.le_trans hB h)
  · exact (hblk b h).1
 have hnot : ∀ b, ¬ w0.own b → b < w.heap.size ∧ ¬ blksOf (ghM G d.N d.us) b := fun b h => ⟨Nat.lt_of_lt_of_le (Bs.lt_of h) hB, fun q => h (hblk b q).1⟩
 have hstand : ∀ b, b < w.heap.size → ¬ blksOf (ghM G d.N d.us) b → w'.heap[b]? = w.heap[b]? := fun b h1 h2 => hb.block b (fun q => q.elim (fun q => by have q' : w.heap.size ≤ b := q; omega) h2)
 obtain ⟨hk1, hk2⟩ : (∀ x, (e.puts (killsM e d.us)).go x = if x ∈ d.us then .dead (verOf (e.go x)) else e.go x) ∧ (e.puts (killsM e d.us)).s = e.s :=
  ⟨fun x => (puts_kills d.us e e x hf.lt).1, (puts_kills d.us e e 0 hf.lt).2⟩
 have hgo : ∀ x, (e.puts (d.ws e)).go x = match outAt d.out d.tg x with
  | some p => renObj (d.fwd e) (newVer e d.N d.us.length p.1 p.2 x) p.2
  | none => if x ∈ d.us then .dead (verOf (e.go x)) else e.go x := fun x => by
  rw [MC.ws, Env.puts_append, (puts_outs d.out d.tg _ x hf.tnodup (fun u hu => by simpa using hf.tlt u hu)).1]
  cases outAt d.out d.tg x with
  | none => exact hk1 x
  | some p => rfl
 have hss : (e.puts (d.ws e)).s = e.s := by
  rw [MC.ws, Env.puts_append, (puts_outs d.out d.tg _ 0 hf.tnodup (fun u hu => by simpa using hf.tlt u hu)).2, hk2]
 have alone : ∀ {u : Nat} {g : Ob} {blk : Nat}, u ∉ d.us → G.ob u = some g → 0 < g.cap → g.base = some ⟨blk, 0, none⟩ → blk < w.heap.size ∧ ¬ blksOf (ghM G d.N d.us) blk := fun {u g blk} hu hg hc hbs => by
  obtain ⟨b2, q1, q2, -⟩ := hI.based hg hc
  rw [hbs] at q1; cases q1
  refine ⟨q2, fun q => ?_⟩
  obtain ⟨-, -, u', g', m1, m2, m3, m4⟩ := hblk _ q
  exact hI.sep u u' g g' (fun h => hu (h ▸ m1)) hg m2 hc m3 (by rw [hbs, m4])
 refine ⟨?_, hmok⟩
 exact {
  gle := hI.gle.trans hleG
  below := hI.below.stepW hb.os hb.tape hb.output hb.dr hb.size fun k hk => by
   obtain ⟨h1, h2⟩ := hnot k hk
   exact hstand k h1 h2
  pr0 := fun b o h => hle.pr b o (hI.pr0 b o h)
  prB := fun b o hbo hp => by
   obtain ⟨h1, h2⟩ := hnot b hbo
   exact hI.prB b o hbo (hpr b o h1 h2 hp)
  gl := hI.gl
  prlt := hpl
  len := by rw [hss]; exact hI.len
  slots := fun t a v h1 h2 => (hI.slots t a v (by rw [← hss]; exact h1) h2).mono hleG
  objs := fun u => by
   rw [hgo]
   cases ho : outAt d.out d.tg u with
   | some p =>
     obtain ⟨g, q1, q2, q3, q4⟩ := hat ho
     obtain ⟨v, ty, esz, fz, pu, xs, he⟩ := isObj_eq q3
     exact ObRel.ren he (hout p q4) hmok (fun _ _ => Iff.rfl) (by simp only [ghB, ho]) (fun g hg => by simp only [ghB, ho, hg, Option.map_some]) (fun _ b _ _ _ hb' => hown b hb')
   | none =>
     simp only
     by_cases hu : u ∈ d.us
     · rw [if_pos hu]
       obtain ⟨g, q1, q2, q3⟩ := hI.atObj (List.all_eq_true.1 hf.objs u hu)
       exact ⟨by simp only [ghB, ho]; exact q3, by simp only [ghB, ho]; rw [if_pos hu]⟩
     · rw [if_neg hu]
       refine (hI.objs u).mono hleG (by simp only [ghB, ho]; rw [if_neg hu]) (by simp only [ghB, ho]) (fun g blk hg hc hbs _ => ?_)
       obtain ⟨a1, a2⟩ := alone hu hg hc hbs
       exact ⟨hstand blk a1 a2, fun o _ hp => hpr blk o a1 a2 hp⟩
  sep := fun t t' g g' hne h1 h2 c1 c2 => by
   have place : ∀ {u : Nat} {p : Nat × AV} {g : Ob}, outAt d.out d.tg u = some p → G'.ob p.1 = some g → 0 < g.cap → ∃ b, g.base = some ⟨b, 0, none⟩ ∧ Bs.own ⟨w, blksOf (ghM G d.N d.us), ghM G d.N d.us⟩ b := fun {u p g} ho hg hc => by
    obtain ⟨g1, q1, q2, q3, q4⟩ := hat ho
    have hr := hout p q4
    obtain ⟨v, ty, esz, fz, pu, xs, he⟩ := isObj_eq q3
    rw [he] at hr
    obtain ⟨-, -, -, g2, h4, -, -, -, h8⟩ := hr
    rw [hg] at h4; cases h4
    rcases h8 with h8 | ⟨blk, cs, k1, k2, -⟩
    · omega
    · exact ⟨blk, k1, k2⟩
   have apart : ∀ {u u' : Nat} {p : Nat × AV} {g g' : Ob}, outAt d.out d.tg u = some p → G'.ob p.1 = some g → 0 < g.cap → u' ∉ d.us → G.ob u' = some g' → 0 < g'.cap → g.base ≠ g'.base := fun {u u' p g g'} ho hg hc hu' hg' hc' hq => by
    obtain ⟨b, q1, q2⟩ := place ho hg hc
    obtain ⟨b', r1, r2, -⟩ := hI.based hg' hc'
    rw [q1, r1] at hq; cases hq
    obtain ⟨a1, a2⟩ := alone hu' hg' hc' r1
    rcases q2 with q2 | q2
    · have q2' : w.heap.size ≤ b := q2
      omega
    · exact a2 q2
   simp only [ghB] at h1 h2
   cases ho : outAt d.out d.tg t with
   | some p =>
     obtain ⟨gp, q1, -⟩ := hat ho
     rw [ho] at h1
     simp only [q1, Option.map_some, Option.some.injEq] at h1
     subst h1
     cases ho' : outAt d.out d.tg t' with
     | some p' =>
       obtain ⟨gp', q1', -⟩ := hat ho'
       rw [ho'] at h2
       simp only [q1', Option.map_some, Option.some.injEq] at h2
       subst h2
       by_cases hpp : p.1 = p'.1
       ·
        exfalso
        obtain ⟨k, a1, a2⟩ := outAt_spec _ _ _ _ ho
        obtain ⟨k', b1, b2⟩ := outAt_spec _ _ _ _ ho'
        exact absurd (hf.onodup k k' p p' a1 b1 hpp) (fun hkk => hne (by subst hkk; rw [a2] at b2; exact Option.some.inj b2))
       · exact hsep p.1 p'.1 gp gp' hpp q1 q1' c1 c2
     | none =>
       rw [ho'] at h2
       simp only at h2
       split at h2
       · cases h2
       · exact (apart (g := gp) ho q1 c1 (by assumption) h2 c2 : gp.base ≠ _)
   | none =>
     rw [ho] at h1
     simp only at h1
     split at h1
     · cases h1
     · cases ho' : outAt d.out d.tg t' with
       | some p' =>
         obtain ⟨gp', q1', -⟩ := hat ho'
         rw [ho'] at h2
         simp only [q1', Option.map_some, Option.some.injEq] at h2
         subst h2
         exact fun q => apart (g := gp') ho' q1' c2 (by assumption) h1 c1 q.symm
       | none =>
         rw [ho'] at h2
         simp only at h2
         split at h2
         · cases h2
         · exact hI.sep t t' g g' hne h1 h2 c1 c2 }
end
end Go.Proofs.YtbhgehhmjpipiaaGreatDoor.Ab
