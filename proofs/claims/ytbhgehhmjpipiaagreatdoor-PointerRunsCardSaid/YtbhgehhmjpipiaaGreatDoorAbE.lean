/- Own objects lent: a call that is told own rows, two steps deep, by what they hold; what comes out leads to none of them. -/
import Derived.Test.YtbhgehhmjpipiaaGreatDoorAbM
set_option linter.unusedSectionVars false
set_option linter.unusedSimpArgs false
set_option linter.unusedVariables false
namespace Go.Proofs.YtbhgehhmjpipiaaGreatDoor.Ab
open Go Go.RowKit
variable [Inhabited DW]
def Env.tell1 (e : Env) : AV → Option AV
 | .ref t v => match e.go t with
   | .obj v' _ _ _ true xs => if v = v' then some (.sl xs) else none
   | _ => none
 | a => if a.cellP = true then some a else none
def Env.tellL1 (e : Env) : List AV → Option (List AV)
 | [] => some []
 | a :: as => match e.tell1 a, e.tellL1 as with
   | some a', some as' => some (a' :: as')
   | _, _ => none
def Env.tellR1 (e : Env) : List (List AV) → Option (List (List AV))
 | [] => some []
 | a :: as => match e.tellL1 a, e.tellR1 as with
   | some a', some as' => some (a' :: as')
   | _, _ => none
def Env.tell2 (e : Env) : AV → Option AV
 | .ref t v => match e.go t with
   | .obj v' _ _ _ true xs => if v = v' then some (.sl xs) else none
   | .obj v' _ _ _ false xs => if v = v' then (e.tellR1 xs).map .sl else none
   | _ => none
 | a => if a.cellP = true then some a else none
def Env.tellL2 (e : Env) : List AV → Option (List AV)
 | [] => some []
 | a :: as => match e.tell2 a, e.tellL2 as with
   | some a', some as' => some (a' :: as')
   | _, _ => none
def Env.tell (e : Env) : AV → Option AV
 | .agg cs => (e.tellL2 cs).map .agg
 | a => e.tell2 a
def Env.tellA (e : Env) : List AV → Option (List AV)
 | [] => some []
 | a :: as => match e.tell a, e.tellA as with
   | some a', some as' => some (a' :: as')
   | _, _ => none
def freeC : AV → Bool
 | .int .. | .bool _ | .ub | .str _ | .nils | .emp | .ref .. | .loc .. | .win .. => true
 | _ => false
def freeA : AV → Bool
 | .agg cs => cs.all freeC
 | a => freeC a
def freeR : AV → Bool
 | .tup cs => cs.all freeA
 | a => freeA a
def rowsF (xs : List (List AV)) : Bool := xs.all fun x => x.all freeC
theorem rowsF_map {α : Type} {f : α → List AV} {l : List α} (h : ∀ a, (f a).all freeC = true) : rowsF (l.map f) = true := by simp [rowsF, h]
def freeO : AV → Bool
 | .obj _ _ _ _ _ xs => rowsF xs
 | _ => false
theorem freeC_congr {G G' : Gh} {w : World} {a : AV} {v : Value} (ho : G'.ob = G.ob) (hc : G'.cnt = G.cnt) (h : VRel G w a v) (hf : freeC a = true) : VRel G' w a v := by
 cases h with
 | int k n => exact .int k n
 | bool b => exact .bool b
 | ub b => exact .ub b
 | str s => exact .str s
 | nils => exact .nils
 | emp A => exact .emp A
 | ref t ver v hv h1 h => exact .ref t ver v (by rw [hc]; exact hv) h1 (by rw [ho]; exact h)
 | loc t ver i off v hv h1 h => exact .loc t ver i off v (by rw [hc]; exact hv) h1 (by rw [ho]; exact h)
 | win t ver lo n v hv h1 h => exact .win t ver lo n v (by rw [hc]; exact hv) h1 (by rw [ho]; exact h)
 | _ => simp [freeC] at hf
theorem freeA_congr {G G' : Gh} {w : World} {a : AV} {v : Value} (ho : G'.ob = G.ob) (hc : G'.cnt = G.cnt) (h : VRel G w a v) (hf : freeA a = true) : VRel G' w a v := by
 cases a with
 | agg cs =>
   cases h with
   | agg _ vs hn hh => exact .agg cs vs hn fun i c u h1 h2 => freeC_congr ho hc (hh i c u h1 h2) (List.all_eq_true.1 hf c (List.mem_of_getElem? h1))
 | _ => exact freeC_congr ho hc h hf
theorem freeR_congr {G G' : Gh} {w : World} {a : AV} {v : Value} (ho : G'.ob = G.ob) (hc : G'.cnt = G.cnt) (h : VRel G w a v) (hf : freeR a = true) : VRel G' w a v := by
 cases a with
 | tup cs =>
   cases h with
   | tup _ vs hn hh => exact .tup cs vs hn fun i c u h1 h2 => freeA_congr ho hc (hh i c u h1 h2) (List.all_eq_true.1 hf c (List.mem_of_getElem? h1))
 | _ => exact freeA_congr ho hc h hf
theorem freeO_congr {G G' : Gh} {w : World} {B B' : Nat → Prop} {t : Nat} {a : AV} (ho : G'.ob = G.ob) (hc : G'.cnt = G.cnt) (hp : ∀ b o, G'.pr b o → G.pr b o) (hB : ∀ b, B b → B' b) (h : ObRel G w B t a) (hf : freeO a = true) : ObRel G' w B' t a := by
 cases a with
 | obj ver ty esz fz pu xs =>
   obtain ⟨h1, h2, h3, g, h4, h5, h6, h7, h8⟩ := h
   refine ⟨by rw [hc]; exact h1, h2, h3, g, by rw [ho]; exact h4, h5, h6, h7, ?_⟩
   rcases h8 with h8 | ⟨blk, cs, k1, k2, k3, k4, k5, k6, k7, k8, k9⟩
   · exact .inl h8
   · refine .inr ⟨blk, cs, k1, hB _ k2, k3, k4, k5, k6, k7, fun i j x a hx ha => ?_, fun o q => k9 o (hp _ _ q)⟩
     obtain ⟨v, hv, hr⟩ := k8 i j x a hx ha
     exact ⟨v, hv, freeC_congr ho hc hr (List.all_eq_true.1 (List.all_eq_true.1 hf x (List.mem_of_getElem? hx)) a (List.mem_of_getElem? ha))⟩
 | _ => simp [freeO] at hf
def lentG (G : Gh) : Gh := { G with pr := fun b o => G.pr b o ∨ ∃ u g, G.ob u = some g ∧ 0 < g.cap ∧ g.base = some ⟨b, 0, none⟩ }
section
variable {P : Program} {w0 : Bs} {Pr0 : Nat → Nat → Prop} {G : Gh} {e : Env} {tm : Array Value} {w : World}
theorem tellL1_spec : ∀ {xs ys : List AV}, e.tellL1 xs = some ys → ys.length = xs.length ∧ ∀ (i : Nat) (x y : AV), xs[i]? = some x → ys[i]? = some y → e.tell1 x = some y
 | [], ys, h => by simp only [Env.tellL1, Option.some.injEq] at h; subst h; simp
 | a :: as, ys, h => by
   simp only [Env.tellL1] at h
   cases h1 : e.tell1 a with
   | none => rw [h1] at h; simp at h
   | some a' =>
   cases h2 : e.tellL1 as with
   | none => rw [h1, h2] at h; simp at h
   | some as' =>
   rw [h1, h2] at h
   simp only [Option.some.injEq] at h
   subst h
   obtain ⟨i1, i2⟩ := tellL1_spec h2
   refine ⟨by simp [i1], fun i x y hx hy => ?_⟩
   cases i with
   | zero => simp at hx hy; subst hx hy; exact h1
   | succ i => exact i2 i x y (by simpa using hx) (by simpa using hy)
theorem tellR1_spec : ∀ {xs ys : List (List AV)}, e.tellR1 xs = some ys → ys.length = xs.length ∧ ∀ (i : Nat) (x y : List AV), xs[i]? = some x → ys[i]? = some y → e.tellL1 x = some y
 | [], ys, h => by simp only [Env.tellR1, Option.some.injEq] at h; subst h; simp
 | a :: as, ys, h => by
   simp only [Env.tellR1] at h
   cases h1 : e.tellL1 a with
   | none => rw [h1] at h; simp at h
   | some a' =>
   cases h2 : e.tellR1 as with
   | none => rw [h1, h2] at h; simp at h
   | some as' =>
   rw [h1, h2] at h
   simp only [Option.some.injEq] at h
   subst h
   obtain ⟨i1, i2⟩ := tellR1_spec h2
   refine ⟨by simp [i1], fun i x y hx hy => ?_⟩
   cases i with
   | zero => simp at hx hy; subst hx hy; exact h1
   | succ i => exact i2 i x y (by simpa using hx) (by simpa using hy)
theorem tellL2_spec : ∀ {xs ys : List AV}, e.tellL2 xs = some ys → ys.length = xs.length ∧ ∀ (i : Nat) (x y : AV), xs[i]? = some x → ys[i]? = some y → e.tell2 x = some y
 | [], ys, h => by simp only [Env.tellL2, Option.some.injEq] at h; subst h; simp
 | a :: as, ys, h => by
   simp only [Env.tellL2] at h
   cases h1 : e.tell2 a with
   | none => rw [h1] at h; simp at h
   | some a' =>
   cases h2 : e.tellL2 as with
   | none => rw [h1, h2] at h; simp at h
   | some as' =>
   rw [h1, h2] at h
   simp only [Option.some.injEq] at h
   subst h
   obtain ⟨i1, i2⟩ := tellL2_spec h2
   refine ⟨by simp [i1], fun i x y hx hy => ?_⟩
   cases i with
   | zero => simp at hx hy; subst hx hy; exact h1
   | succ i => exact i2 i x y (by simpa using hx) (by simpa using hy)
theorem tellA_spec : ∀ {xs ys : List AV}, e.tellA xs = some ys → ys.length = xs.length ∧ ∀ (i : Nat) (x y : AV), xs[i]? = some x → ys[i]? = some y → e.tell x = some y
 | [], ys, h => by simp only [Env.tellA, Option.some.injEq] at h; subst h; simp
 | a :: as, ys, h => by
   simp only [Env.tellA] at h
   cases h1 : e.tell a with
   | none => rw [h1] at h; simp at h
   | some a' =>
   cases h2 : e.tellA as with
   | none => rw [h1, h2] at h; simp at h
   | some as' =>
   rw [h1, h2] at h
   simp only [Option.some.injEq] at h
   subst h
   obtain ⟨i1, i2⟩ := tellA_spec h2
   refine ⟨by simp [i1], fun i x y hx hy => ?_⟩
   cases i with
   | zero => simp at hx hy; subst hx hy; exact h1
   | succ i => exact i2 i x y (by simpa using hx) (by simpa using hy)
theorem Inv.tellRow (hI : Inv w0 Pr0 G e tm w) {t ver : Nat} {ty : TypeId} {esz : Nat} {fz pu : Bool} {xs ys : List (List AV)} (ho : e.go t = .obj ver ty esz fz pu xs) {v : Value} (hv : VRel G w (.ref t ver) v)
 (hl : ys.length = xs.length) (hr : ∀ (i : Nat) (x y : List AV), xs[i]? = some x → ys[i]? = some y → y.length = x.length ∧ ∀ (j : Nat) (c d : AV), x[j]? = some c → y[j]? = some d → d.cellP = true ∧ ∀ u, VRel G w c u → VRel (lentG G) w d u) : VRel (lentG G) w (.sl ys) v := by
 have hO := hI.objs t
 rw [ho] at hO
 obtain ⟨_, _, hs, g, h4, h5, h6, h7, h8⟩ := hO
 have rowAt : ∀ {i : Nat} {y : List AV}, ys[i]? = some y → ∃ x, xs[i]? = some x := fun {i y} h => by
  have : i < xs.length := by rw [← hl]; exact (List.getElem?_eq_some_iff.1 h).1
  exact ⟨_, List.getElem?_eq_getElem this⟩
 have cellAt : ∀ {x y : List AV} {j : Nat} {d : AV}, y.length = x.length → y[j]? = some d → ∃ c, x[j]? = some c := fun {x y j d} hyx h => by
  have : j < x.length := by rw [← hyx]; exact (List.getElem?_eq_some_iff.1 h).1
  exact ⟨_, List.getElem?_eq_getElem this⟩
 cases hv with
 | ref _ _ _ hv h1 h =>
   have hg := h g h4 h5
   rcases h8 with ⟨h8, h9⟩ | ⟨blk, arr, k1, k2, k3, k4, k5, k6, k7, k8, k9⟩
   · subst h9
     have : ys = [] := List.eq_nil_of_length_eq_zero (by simpa using hl)
     subst this
     rw [hg, h6]
     exact .sl0 _ _
   · rw [hg, h6, k1, ← hl]
     have both : ∀ {i j : Nat} {y : List AV} {d : AV}, ys[i]? = some y → y[j]? = some d → ∃ x c, xs[i]? = some x ∧ x[j]? = some c ∧ d.cellP = true ∧ ∀ u, VRel G w c u → VRel (lentG G) w d u := fun {i j y d} h1 h2 => by
      obtain ⟨x, hx⟩ := rowAt h1
      obtain ⟨q1, q2⟩ := hr i x y hx h1
      obtain ⟨c, hc⟩ := cellAt q1 h2
      obtain ⟨q3, q4⟩ := q2 j c d hc h2
      exact ⟨x, c, hx, hc, q3, q4⟩
     refine .sl ys blk 0 g.cap esz (fun i j => (arr[i * esz + j]?).getD undef) (by rw [hl]; exact k4) (fun y hy => ?_) (fun y hy d hd => ?_) (fun i j y d h1 h2 => ?_) (fun i j y d h1 h2 => ?_) (fun i j y d h1 h2 => ?_)
     · obtain ⟨i, hi⟩ := List.getElem?_of_mem hy
       obtain ⟨x, hx⟩ := rowAt hi
       rw [(hr i x y hx hi).1]
       exact hs x (List.mem_of_getElem? hx)
     · obtain ⟨i, hi⟩ := List.getElem?_of_mem hy
       obtain ⟨j, hj⟩ := List.getElem?_of_mem hd
       obtain ⟨x, c, _, _, q, _⟩ := both hi hj
       exact q
     · obtain ⟨x, c, q1, q2, _, _⟩ := both h1 h2
       obtain ⟨u, hu, _⟩ := k8 i j x c q1 q2
       rw [cell_of_row _ _ _ _ _ _ k3, Nat.zero_add]
       simp only [hu, Option.getD_some]
     · exact .inr ⟨t, g, h4, k7, k1⟩
     · obtain ⟨x, c, q1, q2, _, q4⟩ := both h1 h2
       obtain ⟨u, hu, hr'⟩ := k8 i j x c q1 q2
       simp only [hu, Option.getD_some]
       exact q4 u hr'
theorem lent_pure {c : AV} {u : Value} (h : VRel G w c u) (hc : c.cellP = true) : VRel (lentG G) w c u := h.pure_congr (G' := lentG G) (fun b o h => Or.inl h) (fun _ _ _ _ h => h) hc
theorem Inv.tellPure (hI : Inv w0 Pr0 G e tm w) {t ver : Nat} {ty : TypeId} {esz : Nat} {fz : Bool} {xs : List (List AV)} (ho : e.go t = .obj ver ty esz fz true xs) {v : Value} (hv : VRel G w (.ref t ver) v) : VRel (lentG G) w (.sl xs) v := by
 refine hI.tellRow ho hv rfl fun i x y hx hy => ?_
 rw [hx] at hy; cases hy
 refine ⟨rfl, fun j c d hc hd => ?_⟩
 rw [hc] at hd; cases hd
 have hO := hI.objs t
 rw [ho] at hO
 have hP := hO.2.1 rfl x (List.mem_of_getElem? hx) c (List.mem_of_getElem? hc)
 exact ⟨hP, fun u h => lent_pure h hP⟩
theorem Inv.tell1 (hI : Inv w0 Pr0 G e tm w) {x y : AV} {v : Value} (hx : VRel G w x v) (h : e.tell1 x = some y) : y.cellP = true ∧ VRel (lentG G) w y v := by
 cases x with
 | ref t ver =>
   simp only [Env.tell1] at h
   cases ho : e.go t with
   | obj v' ty esz fz pu xs =>
     cases pu with
     | false => rw [ho] at h; simp at h
     | true =>
       rw [ho] at h
       simp only at h
       split at h
       case isFalse => cases h
       rename_i hv; subst hv
       cases h
       exact ⟨rfl, hI.tellPure ho hx⟩
   | _ => rw [ho] at h; simp at h
 | _ =>
   simp only [Env.tell1] at h
   split at h
   case isFalse => cases h
   rename_i hc
   cases h
   exact ⟨hc, lent_pure hx hc⟩
theorem Inv.tell2 (hI : Inv w0 Pr0 G e tm w) {x y : AV} {v : Value} (hx : VRel G w x v) (h : e.tell2 x = some y) : y.cellP = true ∧ VRel (lentG G) w y v := by
 cases x with
 | ref t ver =>
   simp only [Env.tell2] at h
   cases ho : e.go t with
   | obj v' ty esz fz pu xs =>
     cases pu with
     | false =>
       rw [ho] at h
       simp only at h
       split at h
       case isFalse => cases h
       rename_i hv; subst hv
       cases hr : e.tellR1 xs with
       | none => rw [hr] at h; cases h
       | some ys =>
         rw [hr] at h
         cases h
         obtain ⟨q1, q2⟩ := tellR1_spec hr
         refine ⟨rfl, hI.tellRow ho hx q1 fun i x y hx hy => ?_⟩
         obtain ⟨q3, q4⟩ := tellL1_spec (q2 i x y hx hy)
         refine ⟨q3, fun j c d hc hd => ?_⟩
         have hcd := q4 j c d hc hd
         refine ⟨?_, fun u hu => (hI.tell1 hu hcd).2⟩
         cases c with
         | ref t2 v2 =>
           simp only [Env.tell1] at hcd
           split at hcd
           · split at hcd
             · cases hcd; rfl
             · cases hcd
           · cases hcd
         | _ =>
           simp only [Env.tell1] at hcd
           split at hcd
           · cases hcd; assumption
           · cases hcd
     | true =>
       rw [ho] at h
       simp only at h
       split at h
       case isFalse => cases h
       rename_i hv; subst hv
       cases h
       exact ⟨rfl, hI.tellPure ho hx⟩
   | _ => rw [ho] at h; simp at h
 | _ =>
   simp only [Env.tell2] at h
   split at h
   case isFalse => cases h
   rename_i hc
   cases h
   exact ⟨hc, lent_pure hx hc⟩
theorem Inv.tell (hI : Inv w0 Pr0 G e tm w) {x y : AV} {v : Value} (hx : VRel G w x v) (h : e.tell x = some y) : y.pure = true ∧ VRel (lentG G) w y v := by
 cases x with
 | agg cs =>
   simp only [Env.tell] at h
   cases hl : e.tellL2 cs with
   | none => rw [hl] at h; cases h
   | some ds =>
     rw [hl] at h
     cases h
     obtain ⟨q1, q2⟩ := tellL2_spec hl
     cases hx with
     | agg _ vs hn hh =>
       have at_ : ∀ {i : Nat} {d : AV}, ds[i]? = some d → ∃ c, cs[i]? = some c ∧ e.tell2 c = some d := fun {i d} h => by
        have : i < cs.length := by rw [← q1]; exact (List.getElem?_eq_some_iff.1 h).1
        exact ⟨_, List.getElem?_eq_getElem this, q2 i _ d (List.getElem?_eq_getElem this) h⟩
       have key : ∀ {i : Nat} {d : AV}, ds[i]? = some d → ∃ u, vs[i]? = some u ∧ d.cellP = true ∧ VRel (lentG G) w d u := fun {i d} h => by
        obtain ⟨c, hc, hcd⟩ := at_ h
        have hi : i < vs.size := by rw [hn]; exact (List.getElem?_eq_some_iff.1 hc).1
        have hu := Array.getElem?_eq_getElem hi
        obtain ⟨r1, r2⟩ := hI.tell2 (hh i c _ hc hu) hcd
        exact ⟨_, hu, r1, r2⟩
       refine ⟨?_, .agg ds vs (by rw [hn, q1]) fun i d u h1 h2 => ?_⟩
       · simp only [AV.pure, List.all_eq_true]
         intro d hd
         obtain ⟨i, hi⟩ := List.getElem?_of_mem hd
         obtain ⟨_, _, r, _⟩ := key hi
         exact r
       · obtain ⟨u', hu', _, r⟩ := key h1
         rw [h2] at hu'; cases hu'
         exact r
 | _ =>
   obtain ⟨h1, h2⟩ := hI.tell2 hx h
   refine ⟨?_, h2⟩
   cases y <;> simp_all [AV.pure, AV.cellP]
end
structure MC.Lends (d : MC) (e : Env) (as : List AV) : Prop where
 us : d.us = []
 os : d.os = []
 args : e.tellA as = some d.args
 tnodup : d.tg.Nodup
 tlt : ∀ u ∈ d.tg, u < e.o.length
 tlen : d.tg.length = d.out.length
 outs : d.out.all (fun p => freeO p.2) = true
 res : freeR d.r = true
 onodup : ∀ (k k' : Nat) (p p' : Nat × AV), d.out[k]? = some p → d.out[k']? = some p' → p.1 = p'.1 → k = k'
def deep1 (e : Env) (t : Nat) : List Nat := match e.go t with
 | .obj _ _ _ _ false xs => xs.flatMap fun r => r.flatMap ment1
 | _ => []
section
variable {e e' : Env}
theorem tell1_loc {x : AV} (h : ∀ t ∈ ment1 x, e.go t = e'.go t) : e.tell1 x = e'.tell1 x := by
 cases x with
 | ref t v => simp only [Env.tell1, h t (by simp [ment1])]
 | _ => rfl
theorem tellL1_loc : ∀ {xs : List AV}, (∀ t ∈ xs.flatMap ment1, e.go t = e'.go t) → e.tellL1 xs = e'.tellL1 xs
 | [], _ => rfl
 | x :: xs, h => by
   simp only [Env.tellL1]
   rw [tell1_loc fun t ht => h t (by rw [List.flatMap_cons, List.mem_append]; exact .inl ht), tellL1_loc fun t ht => h t (by rw [List.flatMap_cons, List.mem_append]; exact .inr ht)]
theorem tellR1_loc : ∀ {xs : List (List AV)}, (∀ t ∈ xs.flatMap (fun r => r.flatMap ment1), e.go t = e'.go t) → e.tellR1 xs = e'.tellR1 xs
 | [], _ => rfl
 | x :: xs, h => by
   simp only [Env.tellR1]
   rw [tellL1_loc fun t ht => h t (by rw [List.flatMap_cons, List.mem_append]; exact .inl ht), tellR1_loc fun t ht => h t (by rw [List.flatMap_cons, List.mem_append]; exact .inr ht)]
theorem tell2_loc {x : AV} (h : ∀ t ∈ ment1 x, e.go t = e'.go t) (hd : ∀ t ∈ ment1 x, ∀ u ∈ deep1 e t, e.go u = e'.go u) : e.tell2 x = e'.tell2 x := by
 cases x with
 | ref t v =>
   have ht := h t (by simp [ment1])
   have hdt := hd t (by simp [ment1])
   unfold deep1 at hdt
   simp only [Env.tell2, ← ht]
   cases ho : e.go t with
   | obj v' ty esz fz pu xs =>
     cases pu with
     | true => rfl
     | false =>
       rw [ho] at hdt
       simp only
       rw [tellR1_loc hdt]
   | _ => rfl
 | _ => rfl
theorem tellL2_loc : ∀ {xs : List AV}, (∀ t ∈ xs.flatMap ment1, e.go t = e'.go t) → (∀ t ∈ xs.flatMap ment1, ∀ u ∈ deep1 e t, e.go u = e'.go u) → e.tellL2 xs = e'.tellL2 xs
 | [], _, _ => rfl
 | x :: xs, h, hd => by
   simp only [Env.tellL2]
   rw [tell2_loc (fun t ht => h t (by rw [List.flatMap_cons, List.mem_append]; exact .inl ht)) (fun t ht => hd t (by rw [List.flatMap_cons, List.mem_append]; exact .inl ht)),
    tellL2_loc (fun t ht => h t (by rw [List.flatMap_cons, List.mem_append]; exact .inr ht)) (fun t ht => hd t (by rw [List.flatMap_cons, List.mem_append]; exact .inr ht))]
theorem tell_eq {x : AV} (hx : ∀ cs, x ≠ .agg cs) : e.tell x = e.tell2 x := by
 cases x <;> first | rfl | exact absurd rfl (hx _)
theorem ment_eq {x : AV} (hx : ∀ cs, x ≠ .agg cs) : ment x = ment1 x := by
 cases x <;> first | rfl | exact absurd rfl (hx _)
theorem tell_loc {x : AV} (h : ∀ t ∈ ment x, e.go t = e'.go t) (hd : ∀ t ∈ ment x, ∀ u ∈ deep1 e t, e.go u = e'.go u) : e.tell x = e'.tell x := by
 by_cases q : ∃ cs, x = .agg cs
 · obtain ⟨cs, rfl⟩ := q
   simp only [Env.tell]; rw [tellL2_loc h hd]
 · have hx : ∀ cs, x ≠ .agg cs := fun cs e => q ⟨cs, e⟩
   rw [tell_eq hx, tell_eq hx]
   rw [ment_eq hx] at h hd
   exact tell2_loc h hd
theorem tellA_loc : ∀ {xs : List AV}, (∀ x ∈ xs, ∀ t ∈ ment x, e.go t = e'.go t) → (∀ x ∈ xs, ∀ t ∈ ment x, ∀ u ∈ deep1 e t, e.go u = e'.go u) → e.tellA xs = e'.tellA xs
 | [], _, _ => rfl
 | x :: xs, h, hd => by
   simp only [Env.tellA]
   rw [tell_loc (h x (List.mem_cons_self ..)) (hd x (List.mem_cons_self ..)), tellA_loc (fun y hy => h y (List.mem_cons_of_mem _ hy)) (fun y hy => hd y (List.mem_cons_of_mem _ hy))]
end
structure MC.LendsD (d : MC) (e : Env) (as : List AV) (dst : Option Nat) : Prop where
 us : d.us = []
 os : d.os = []
 args : e.tellA as = some d.args
 tnodup : d.tg.Nodup
 tgIn : ∀ u ∈ d.tg, dst = some u
 tlen : d.tg.length = d.out.length
 outs : d.out.all (fun p => freeO p.2) = true
 res : freeR d.r = true
 onodup : ∀ (k k' : Nat) (p p' : Nat × AV), d.out[k]? = some p → d.out[k']? = some p' → p.1 = p'.1 → k = k'
theorem MC.LendsD.lends {d : MC} {e : Env} {as : List AV} {dst : Option Nat} (h : d.LendsD e as dst) (hdl : ∀ u, dst = some u → u < e.o.length) : d.Lends e as :=
 ⟨h.us, h.os, h.args, h.tnodup, fun u hu => hdl u (h.tgIn u hu), h.tlen, h.outs, h.res, h.onodup⟩
theorem MC.LendsD.loc {d : MC} {e e' : Env} {as : List AV} {dst : Option Nat} (h : d.LendsD e as dst) (hgo : ∀ a ∈ as, ∀ t ∈ ment a, e.go t = e'.go t) (hdp : ∀ a ∈ as, ∀ t ∈ ment a, ∀ u ∈ deep1 e t, e.go u = e'.go u) (hd : ∀ u, dst = some u → e.go u = e'.go u) :
 d.LendsD e' as dst ∧ d.ws e' = d.ws e ∧ d.res e' = d.res e := by
 have htg : ∀ u ∈ d.tg, e.go u = e'.go u := fun u hu => hd u (h.tgIn u hu)
 have hfw : d.fwd e = d.fwd e' := fwdM_loc htg
 refine ⟨⟨h.us, h.os, by rw [← tellA_loc hgo hdp]; exact h.args, h.tnodup, h.tgIn, h.tlen, h.outs, h.res, h.onodup⟩, ?_, ?_⟩
 · unfold MC.ws
   rw [← hfw, outsM_loc htg, h.us]
   rfl
 · unfold MC.res
   rw [hfw]
theorem staysM_nil (N : Nat) : ∀ (out : List (Nat × AV)) (tg : List Nat), staysM N [] out tg = true
 | [], tg => by cases tg <;> rfl
 | p :: out, [] => rfl
 | p :: out, u :: tg => by
   simp only [staysM, staysM_nil N out tg, Bool.and_true, List.length_nil, Nat.add_zero, Bool.or_eq_true, Bool.not_eq_true', Bool.and_eq_false_iff, decide_eq_false_iff_not]
   left
   by_cases h : N ≤ p.1
   · exact .inl (.inr (by omega))
   · exact .inl (.inl h)
theorem MC.Lends.fits {d : MC} {e : Env} {as : List AV} (h : d.Lends e as) : ({ d with args := as.map (renA (invM e d.N [])) } : MC).Fits e as where
 args := by simp only [h.us]
 os := by simp only [h.us, h.os]; rfl
 objs := by simp only [h.us]; rfl
 nodup := by simp only [h.us]; exact List.nodup_nil
 lt := fun u hu => by simp only [h.us] at hu; cases hu
 tnodup := h.tnodup
 tlt := h.tlt
 tlen := h.tlen
 outs := by
  rw [List.all_eq_true]
  intro p hp
  have := List.all_eq_true.1 h.outs p hp
  cases hq : p.2 <;> rw [hq] at this <;> simp_all [freeO, isObj]
 stays := by simp only [h.us]; exact staysM_nil _ _ _
 onodup := h.onodup
end Go.Proofs.YtbhgehhmjpipiaaGreatDoor.Ab
