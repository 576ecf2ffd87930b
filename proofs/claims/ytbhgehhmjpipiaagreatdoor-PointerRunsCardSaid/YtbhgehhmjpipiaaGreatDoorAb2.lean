/- The abstract machine's state, and how it stands to a frame and a world of the model. -/
import Derived.Test.YtbhgehhmjpipiaaGreatDoorAb1
set_option linter.unusedSectionVars false
set_option linter.unusedSimpArgs false
set_option linter.unusedVariables false
namespace Go.Proofs.YtbhgehhmjpipiaaGreatDoor.Ab
open Go Go.RowKit
structure DW where
 on : Prop
 glob : Nat → Option (List AV) := fun _ => none
inductive Comp where
 | s (t : Nat)
 | o (t : Nat)
 deriving DecidableEq
structure Env where
 s : List AV
 o : List AV
def Env.gs (e : Env) (t : Nat) : AV := e.s.getD t .any
def Env.go (e : Env) (t : Nat) : AV := e.o.getD t .any
def Env.get (e : Env) : Comp → AV
 | .s t => e.gs t
 | .o t => e.go t
def Env.put (e : Env) : Comp → AV → Env
 | .s t, a => { e with s := e.s.set t a }
 | .o t, a => { e with o := e.o.set t a }
abbrev Ws := List (Comp × AV)
def Env.puts (e : Env) : Ws → Env
 | [] => e
 | w :: ws => (e.put w.1 w.2).puts ws
theorem Env.puts_append (e : Env) (a b : Ws) : e.puts (a ++ b) = (e.puts a).puts b := by
 induction a generalizing e with
 | nil => rfl
 | cons x a ih => exact ih _
@[simp] theorem Env.put_slen (e : Env) (c : Comp) (a : AV) : (e.put c a).s.length = e.s.length := by cases c <;> simp [Env.put]
@[simp] theorem Env.put_olen (e : Env) (c : Comp) (a : AV) : (e.put c a).o.length = e.o.length := by cases c <;> simp [Env.put]
@[simp] theorem Env.puts_slen (e : Env) (ws : Ws) : (e.puts ws).s.length = e.s.length := by
 induction ws generalizing e with
 | nil => rfl
 | cons x a ih => simp [Env.puts, ih]
@[simp] theorem Env.puts_olen (e : Env) (ws : Ws) : (e.puts ws).o.length = e.o.length := by
 induction ws generalizing e with
 | nil => rfl
 | cons x a ih => simp [Env.puts, ih]
theorem Env.go_put_o (e : Env) (t u : Nat) (a : AV) : (e.put (.o t) a).go u = if t = u ∧ t < e.o.length then a else e.go u := by
 simp only [Env.put, Env.go, List.getD_eq_getElem?_getD, List.getElem?_set]
 by_cases h : t = u
 · subst h
   by_cases h2 : t < e.o.length
   · simp [h2]
   · simp [h2]
 · simp [h]
def nextVer : AV → Nat
 | .obj v .. => v + 1
 | .dead v => v + 1
 | .iter v .. => v + 1
 | _ => 1
structure Bs where
 w : World
 X : Nat → Prop
 g : Gh
def Bs.own (B : Bs) (b : Nat) : Prop := B.w.heap.size ≤ b ∨ B.X b
theorem Bs.lt_of {B : Bs} {b : Nat} (h : ¬ B.own b) : b < B.w.heap.size := by
 rcases Nat.lt_or_ge b B.w.heap.size with h1 | h1
 · exact h1
 · exact absurd (.inl h1) h
variable [Inhabited DW]
structure BelowX (B : Bs) (w' : World) : Prop where
 os : w'.os = B.w.os
 tape : w'.tape = B.w.tape
 output : w'.output = B.w.output
 dr : (default : DW).on → B.w.drawn ≤ w'.drawn
 size : B.w.heap.size ≤ w'.heap.size
 block : ∀ k, ¬ B.own k → w'.heap[k]? = B.w.heap[k]?
structure BelowD (w w' : World) : Prop extends Below w.heap.size w w' where
 dr : (default : DW).on → w.drawn ≤ w'.drawn
theorem BelowD.refl (w : World) : BelowD w w := ⟨Below.refl _ _, fun _ => Nat.le_refl _⟩
theorem BelowX.refl (B : Bs) : BelowX B B.w := ⟨rfl, rfl, rfl, fun _ => Nat.le_refl _, Nat.le_refl _, fun _ _ => rfl⟩
theorem BelowX.step {B : Bs} {w w' : World} (h : BelowX B w) (ho : w'.os = w.os) (ht : w'.tape = w.tape) (hu : w'.output = w.output) (hdr : w.drawn ≤ w'.drawn) (hs : w.heap.size ≤ w'.heap.size) (hb : ∀ k, ¬ B.own k → w'.heap[k]? = w.heap[k]?) : BelowX B w' :=
 ⟨ho.trans h.os, ht.trans h.tape, hu.trans h.output, fun q => Nat.le_trans (h.dr q) hdr, Nat.le_trans h.size hs, fun k hk => (hb k hk).trans (h.block k hk)⟩
theorem BelowX.stepW {B : Bs} {w w' : World} (h : BelowX B w) (ho : w'.os = w.os) (ht : w'.tape = w.tape) (hu : w'.output = w.output) (hdr : (default : DW).on → w.drawn ≤ w'.drawn) (hs : w.heap.size ≤ w'.heap.size) (hb : ∀ k, ¬ B.own k → w'.heap[k]? = w.heap[k]?) : BelowX B w' :=
 ⟨ho.trans h.os, ht.trans h.tape, hu.trans h.output, fun q => Nat.le_trans (h.dr q) (hdr q), Nat.le_trans h.size hs, fun k hk => (hb k hk).trans (h.block k hk)⟩
def ObRel (G : Gh) (w : World) (B : Nat → Prop) (t : Nat) : AV → Prop
 | .obj ver ty esz fz pu xs => G.cnt t = ver ∧ (pu = true → ∀ x ∈ xs, ∀ a ∈ x, AV.cellP a = true) ∧ (∀ x ∈ xs, x.length = esz) ∧
    ∃ g, G.ob t = some g ∧ g.ver = ver ∧ g.n = xs.length ∧ g.esz = esz ∧
     ((g.cap = 0 ∧ xs = []) ∨
       ∃ blk cs, g.base = some ⟨blk, 0, none⟩ ∧ B blk ∧ w.heap[blk]? = some (.cells cs ty (0, 0)) ∧ xs.length ≤ g.cap ∧ g.cap ≤ maxLen ∧ cs.size = g.cap * esz ∧ 0 < g.cap ∧
        (∀ (i j : Nat) (x : List AV) (a : AV), xs[i]? = some x → x[j]? = some a → ∃ v, cs[i * esz + j]? = some v ∧ VRel G w a v) ∧
        (∀ o, G.pr blk o → fz = true ∧ o < xs.length * esz))
 | .dead ver => G.cnt t = ver ∧ G.ob t = none
 | .iter ver s pos => G.cnt t = ver ∧ ∃ g blk, G.ob t = some g ∧ g.ver = ver ∧ g.base = some ⟨blk, 0, none⟩ ∧ 0 < g.cap ∧ B blk ∧ w.heap[blk]? = some (.stringIter s pos) ∧ ∀ o, ¬ G.pr blk o
 | _ => G.cnt t = 0 ∧ G.ob t = none
def Gl (pr : Nat → Nat → Prop) (w : World) : Prop := ∀ g cs, (default : DW).glob g = some cs → VRel ⟨pr, fun _ => none, fun _ => 0⟩ w (.ptr cs) (.pointer (some ⟨g, 0, none⟩))
theorem Gl.mono {pr pr' : Nat → Nat → Prop} {w w' : World} (h : Gl pr w) (hp : ∀ b o, pr b o → pr' b o) (hc : ∀ b o v, pr b o → w.cell? ⟨b, o, none⟩ = some v → w'.cell? ⟨b, o, none⟩ = some v) : Gl pr' w' :=
 fun g cs hg => (h g cs hg).pure_congr (G := ⟨pr, fun _ => none, fun _ => 0⟩) (G' := ⟨pr', fun _ => none, fun _ => 0⟩) hp hc rfl
structure Inv (w0 : Bs) (Pr0 : Nat → Nat → Prop) (G : Gh) (e : Env) (tm : Array Value) (w : World) : Prop where
 gle : GLe w0.g w0.w G w
 below : BelowX w0 w
 pr0 : ∀ b o, Pr0 b o → G.pr b o
 prB : ∀ b o, ¬ w0.own b → G.pr b o → Pr0 b o
 gl : Gl w0.g.pr w0.w
 prlt : ∀ b o, G.pr b o → b < w.heap.size
 len : e.s.length = tm.size
 slots : ∀ (t : Nat) (a : AV) (v : Value), e.s[t]? = some a → tm[t]? = some v → VRel G w a v
 objs : ∀ t, ObRel G w w0.own t (e.go t)
 sep : ∀ t t' g g', t ≠ t' → G.ob t = some g → G.ob t' = some g' → 0 < g.cap → 0 < g'.cap → g.base ≠ g'.base
theorem Inv.glNow {w0 : Bs} {Pr0 : Nat → Nat → Prop} {G : Gh} {e : Env} {tm : Array Value} {w : World} (h : Inv w0 Pr0 G e tm w) : Gl G.pr w := h.gl.mono h.gle.pr h.gle.cell
theorem Inv.slot {w0 : Bs} {Pr0 : Nat → Nat → Prop} {G : Gh} {e : Env} {tm : Array Value} {w : World} (h : Inv w0 Pr0 G e tm w) (t : Nat) : VRel G w (e.gs t) (tm.getD t undef) := by
 unfold Env.gs
 by_cases ht : t < e.s.length
 · have ht' : t < tm.size := h.len ▸ ht
   have h1 : e.s[t]? = some e.s[t] := List.getElem?_eq_getElem ht
   have h2 : tm[t]? = some tm[t] := Array.getElem?_eq_getElem ht'
   rw [List.getD_eq_getElem?_getD, h1, Array.getD_eq_getD_getElem?, h2]
   exact h.slots t _ _ h1 h2
 · rw [List.getD_eq_getElem?_getD, List.getElem?_eq_none (by omega)]
   exact .any _
theorem Inv.putS {w0 : Bs} {Pr0 : Nat → Nat → Prop} {G : Gh} {e : Env} {tm : Array Value} {w : World} (h : Inv w0 Pr0 G e tm w) (d : Nat) {a : AV} {v : Value} (hv : VRel G w a v) :
 Inv w0 Pr0 G (e.put (.s d) a) (tm.setIfInBounds d v) w where
 gle := h.gle
 below := h.below
 pr0 := h.pr0
 prB := h.prB
 gl := h.gl
 prlt := h.prlt
 len := by simp [h.len]
 slots t b u h1 h2 := by
  simp only [Env.put, List.getElem?_set] at h1
  rw [Array.getElem?_setIfInBounds] at h2
  by_cases hd : d = t
  · subst hd
    rw [if_pos rfl] at h1 h2
    split at h1
    · split at h2
      · cases h1; cases h2; exact hv
      · cases h2
    · cases h1
  · rw [if_neg hd] at h1 h2
    exact h.slots t b u h1 h2
 objs t := h.objs t
 sep := h.sep
theorem Inv.world {w0 : Bs} {Pr0 : Nat → Nat → Prop} {G : Gh} {e : Env} {tm : Array Value} {w w' : World} (h : Inv w0 Pr0 G e tm w) (hh : w'.heap = w.heap) (ho : w'.os = w.os) (ht : w'.tape = w.tape) (hu : w'.output = w.output) (hdr : w.drawn ≤ w'.drawn) :
 Inv w0 Pr0 G e tm w' := by
 have hc : ∀ a, w'.cell? a = w.cell? a := fun a => by simp [World.cell?, hh]
 have hle : GLe G w G w' := ⟨fun _ _ h => h, fun _ => Nat.le_refl _, fun _ _ h => .inr h, fun _ _ _ _ h => by rw [hc]; exact h⟩
 exact {
  gle := h.gle.trans hle
  below := h.below.step ho ht hu hdr (by rw [hh]; exact Nat.le_refl _) (fun k _ => by rw [hh])
  pr0 := h.pr0
  prB := h.prB
  gl := h.gl
  prlt := fun b o hb => by rw [hh]; exact h.prlt b o hb
  len := h.len
  slots := fun t a v h1 h2 => (h.slots t a v h1 h2).mono hle
  objs := fun t => by
   have := h.objs t
   revert this
   cases e.go t <;> simp only [ObRel, hh] <;> try exact id
   rintro ⟨h1, h2, h3, g, h4, h5, h6, h7, h8⟩
   refine ⟨h1, h2, h3, g, h4, h5, h6, h7, ?_⟩
   rcases h8 with h8 | ⟨blk, cs, k1, k2, k3, k4, k5, k6, k7, k8, k9⟩
   · exact .inl h8
   · exact .inr ⟨blk, cs, k1, k2, k3, k4, k5, k6, k7, fun i j x a hx ha => by
      obtain ⟨v, hv, hr⟩ := k8 i j x a hx ha
      exact ⟨v, hv, hr.mono hle⟩, k9⟩
  sep := h.sep }
theorem ObRel.mono {G G' : Gh} {w w' : World} {B : Nat → Prop} {t : Nat} {a : AV} (h : ObRel G w B t a) (hle : GLe G w G' w') (hob : G'.ob t = G.ob t) (hcnt : G'.cnt t = G.cnt t)
 (hheap : ∀ g blk, G.ob t = some g → 0 < g.cap → g.base = some ⟨blk, 0, none⟩ → B blk → w'.heap[blk]? = w.heap[blk]? ∧ ∀ o, blk < w.heap.size → G'.pr blk o → G.pr blk o) : ObRel G' w' B t a := by
 revert h
 cases a <;> simp only [ObRel, hob, hcnt] <;> try exact id
 case obj =>
  rintro ⟨h1, h2, h3, g, h4, h5, h6, h7, h8⟩
  refine ⟨h1, h2, h3, g, h4, h5, h6, h7, ?_⟩
  rcases h8 with h8 | ⟨blk, cs, k1, k2, k3, k4, k5, k6, k7, k8, k9⟩
  · exact .inl h8
  · obtain ⟨q1, q2⟩ := hheap g blk h4 k7 k1 k2
    have hlt : blk < w.heap.size := (Array.getElem?_eq_some_iff.1 k3).1
    exact .inr ⟨blk, cs, k1, k2, by rw [q1]; exact k3, k4, k5, k6, k7, fun i j x a hx ha => by
     obtain ⟨v, hv, hr⟩ := k8 i j x a hx ha
     exact ⟨v, hv, hr.mono hle⟩, fun o ho => k9 o (q2 o hlt ho)⟩
 case iter =>
  rintro ⟨h1, g, blk, h4, h5, k1, k7, k2, k3, k9⟩
  obtain ⟨q1, q2⟩ := hheap g blk h4 k7 k1 k2
  have hlt : blk < w.heap.size := (Array.getElem?_eq_some_iff.1 k3).1
  exact ⟨h1, g, blk, h4, h5, k1, k7, k2, by rw [q1]; exact k3, fun o ho => k9 o (q2 o hlt ho)⟩
def setOb (G : Gh) (t : Nat) (g : Option Ob) (ver : Nat) : Gh := { G with ob := fun u => if u = t then g else G.ob u, cnt := fun u => if u = t then ver else G.cnt u }
theorem ObRel.cnt_next {G : Gh} {w : World} {B : Nat → Prop} {t : Nat} {a : AV} (h : ObRel G w B t a) : nextVer a = G.cnt t + 1 := by
 revert h
 cases a <;> simp only [ObRel, nextVer] <;> intro h <;> simp [h.1]
theorem ObRel.lt {G : Gh} {w : World} {B : Nat → Prop} {t : Nat} {a : AV} (h : ObRel G w B t a) {g : Ob} {blk : Nat} (hg : G.ob t = some g) (hc : 0 < g.cap) (hb : g.base = some ⟨blk, 0, none⟩) : blk < w.heap.size := by
 revert h
 cases a <;> simp only [ObRel] <;> intro h <;> (try (rw [hg] at h; simp at h; done))
 case obj =>
  obtain ⟨_, _, _, g', h4, _, _, _, h8⟩ := h
  rw [hg] at h4; cases h4
  rcases h8 with h8 | ⟨blk', cs, k1, k2, k3, _⟩
  · omega
  · rw [hb] at k1
    cases k1
    exact (Array.getElem?_eq_some_iff.1 k3).1
 case iter =>
  obtain ⟨_, g', blk', h4, _, k1, _, _, k3, _⟩ := h
  rw [hg] at h4; cases h4
  rw [hb] at k1
  cases k1
  exact (Array.getElem?_eq_some_iff.1 k3).1
theorem Inv.newObj {w0 : Bs} {Pr0 : Nat → Nat → Prop} {G : Gh} {e : Env} {tm : Array Value} {w w' : World} (h : Inv w0 Pr0 G e tm w) (d : Nat) (hd : d < e.o.length)
 (ty : TypeId) (esz cap : Nat) (pu : Bool) (xs : List (List AV)) (arr : Array Value)
 (hw : w'.heap = w.heap.push (.cells arr ty (0, 0))) (hos : w'.os = w.os) (htp : w'.tape = w.tape) (hou : w'.output = w.output) (hdr : w.drawn ≤ w'.drawn)
 (hpu : pu = true → ∀ x ∈ xs, ∀ a ∈ x, AV.cellP a = true) (hs : ∀ x ∈ xs, x.length = esz) (hcap : xs.length ≤ cap) (hmx : cap ≤ maxLen) (hsz : arr.size = cap * esz)
 (hcs : ∀ (i j : Nat) (x : List AV) (a : AV), xs[i]? = some x → x[j]? = some a → ∃ v, arr[i * esz + j]? = some v ∧ VRel G w a v) :
 ∃ G', GLe G w G' w' ∧ Inv w0 Pr0 G' (e.put (.o d) (.obj (nextVer (e.go d)) ty esz false pu xs)) tm w' ∧
  G'.ob d = some ⟨nextVer (e.go d), some ⟨w.heap.size, 0, none⟩, xs.length, cap, esz⟩ ∧ G'.cnt d = nextVer (e.go d) := by
 have hver := (h.objs d).cnt_next
 have hold : ∀ k, k < w.heap.size → w'.heap[k]? = w.heap[k]? := fun k hk => by rw [hw, Array.getElem?_push, if_neg (by omega)]
 have hnew : w'.heap[w.heap.size]? = some (.cells arr ty (0, 0)) := by rw [hw]; simp
 have hcell : ∀ b o, b < w.heap.size → w'.cell? ⟨b, o, none⟩ = w.cell? ⟨b, o, none⟩ := fun b o hb => by simp [World.cell?, hold b hb]
 let G' := setOb G d (some ⟨nextVer (e.go d), some ⟨w.heap.size, 0, none⟩, xs.length, cap, esz⟩) (nextVer (e.go d))
 have hle : GLe G w G' w' := by
  refine ⟨fun _ _ h => h, fun t => ?_, fun t g hg => ?_, fun b o v hp hc => by rw [hcell b o (h.prlt b o hp)]; exact hc⟩
  · simp only [G', setOb]; split
    · subst_vars; omega
    · exact Nat.le_refl _
  · simp only [G', setOb] at hg; split at hg
    · subst_vars; cases hg; exact .inl (by simp only; omega)
    · exact .inr hg
 refine ⟨G', hle, ?_, by simp [G', setOb], by simp [G', setOb]⟩
 have hB : w0.w.heap.size ≤ w.heap.size := h.below.size
 exact {
  gle := h.gle.trans hle
  below := h.below.step hos htp hou hdr (by rw [hw]; simp) (fun k hk => hold k (Nat.lt_of_lt_of_le (Bs.lt_of hk) hB))
  pr0 := h.pr0
  prB := h.prB
  gl := h.gl
  prlt := fun b o hp => by have := h.prlt b o hp; rw [hw]; simp; omega
  len := by simp [h.len]
  slots := fun t a v h1 h2 => (h.slots t a v (by simpa [Env.put] using h1) h2).mono hle
  objs := fun t => by
   rw [Env.go_put_o]
   by_cases ht : d = t
   · subst ht
     rw [if_pos ⟨rfl, hd⟩]
     simp only [ObRel]
     refine ⟨by simp [G', setOb], hpu, hs, ⟨nextVer (e.go d), some ⟨w.heap.size, 0, none⟩, xs.length, cap, esz⟩, by simp [G', setOb], rfl, rfl, rfl, ?_⟩
     by_cases hc0 : cap = 0
     · exact .inl ⟨hc0, List.eq_nil_of_length_eq_zero (by omega)⟩
     · exact .inr ⟨w.heap.size, arr, rfl, .inl hB, hnew, hcap, hmx, hsz, by simp only; omega, fun i j x a hx ha => by
        obtain ⟨v, hv, hr⟩ := hcs i j x a hx ha
        exact ⟨v, hv, hr.mono hle⟩, fun o ho => absurd (h.prlt _ _ ho) (by omega)⟩
   · rw [if_neg (fun q => ht q.1)]
     refine (h.objs t).mono hle (by simp [G', setOb, Ne.symm ht]) (by simp [G', setOb, Ne.symm ht]) (fun g blk hg hc hb hge => ?_)
     have := (h.objs t).lt hg hc hb
     exact ⟨hold blk this, fun o _ ho => ho⟩
  sep := fun t t' g g' hne hg hg' hc hc' => by
   simp only [G', setOb] at hg hg'
   have key : ∀ u g, u ≠ d → G.ob u = some g → 0 < g.cap → ∃ blk, g.base = some ⟨blk, 0, none⟩ ∧ blk < w.heap.size := fun u g hu hgu hcu => by
    have ho := h.objs u
    revert ho
    cases e.go u <;> simp only [ObRel] <;> intro ho <;> (try (rw [hgu] at ho; simp at ho; done))
    case obj =>
     obtain ⟨_, _, _, g2, h4, _, _, _, h8⟩ := ho
     rw [hgu] at h4; cases h4
     rcases h8 with h8 | ⟨blk, cs, k1, k2, k3, _⟩
     · omega
     · exact ⟨blk, k1, (Array.getElem?_eq_some_iff.1 k3).1⟩
    case iter =>
     obtain ⟨_, g2, blk, h4, _, k1, _, _, k3, _⟩ := ho
     rw [hgu] at h4; cases h4
     exact ⟨blk, k1, (Array.getElem?_eq_some_iff.1 k3).1⟩
   split at hg
   · split at hg'
     · subst_vars; exact absurd rfl hne
     · cases hg
       obtain ⟨blk, hb, hlt⟩ := key t' g' (by assumption) hg' hc'
       rw [hb]; intro hq; cases hq; omega
   · split at hg'
     · cases hg'
       obtain ⟨blk, hb, hlt⟩ := key t g (by assumption) hg hc
       rw [hb]; intro hq; cases hq; omega
     · exact h.sep t t' g g' hne hg hg' hc hc' }
end Go.Proofs.YtbhgehhmjpipiaaGreatDoor.Ab
