/- The abstract machine over code; loops; A FUNCTION's CONTRACT out of it. -/
import Derived.Test.YtbhgehhmjpipiaaGreatDoorAb12
import Derived.Test.YtbhgehhmjpipiaaGreatDoorAbL
set_option linter.unusedSectionVars false
set_option linter.unusedSimpArgs false
set_option linter.unusedVariables false
namespace Go.Proofs.YtbhgehhmjpipiaaGreatDoor.Ab
open Go Go.RowKit
variable [Inhabited DW]
inductive AEx where
 | normal
 | exit (id : Nat)
 | ret
def AEx.to : AEx → Exit
 | .normal => .normal
 | .exit id => .exit id
 | .ret => .ret
inductive LoopOk (F : Env → (AEx → Env → Prop) → Prop) (cl : Env → Env) (Q : AEx → Env → Prop) : Env → Prop
 | mk (e : Env) (R : AEx → Env → Prop) (h : F (cl e) R) (hn : ∀ e', R .normal e' → LoopOk F cl Q e') (hx : ∀ x e', x ≠ .normal → R x e' → Q x e') : LoopOk F cl Q e
def killO (t : Nat) (e : Env) : Env := match e.go t with
 | .obj v .. => e.put (.o t) (.dead v)
 | _ => e
def adopt (d ty esz l : Nat) : Nat → Env → Env
 | 0, e => if d < e.o.length then match e.gs l with
   | .nils => (e.put (.o d) (.obj (nextVer (e.go d)) ty esz false true [])).put (.s l) (.ref d (nextVer (e.go d)))
   | _ => e
   else e
 | j + 1, e => if d < e.o.length then if d = l then e else match e.go l with
   | .obj v oty oesz false false (row :: rows) => match row[j]? with
     | some .nils => (e.put (.o d) (.obj (nextVer (e.go d)) ty esz false true [])).put (.o l) (.obj v oty oesz false false (row.set j (.ref d (nextVer (e.go d))) :: rows))
     | _ => e
   | _ => e
   else e
def adoptN (n : Nat) (e : Env) : Env := adopt (n % 1000) (n / 1000 % 1000) (n / 1000000 % 100) (n / 100000000 % 1000) (n / 100000000000) e
def rowsP (xs : List (List AV)) : Bool := xs.all fun x => x.all AV.cellP
def thaw (t l j : Nat) (e : Env) : Env := match e.go t, e.gs l with
 | .obj v ty esz false pu rows, .int _ i => match rows[i.toNat]? with
   | some row => match row[j]? with
     | some (.ref t2 v2) => if t2 = t then e else match e.go t2 with
       | .obj v' ty2 esz2 fz2 true xs2 => if v2 = v' then (e.put (.o t2) (.obj v' ty2 esz2 true true xs2)).put (.o t) (.obj v ty esz false (rowsP (rows.set i.toNat (row.set j (.sl xs2)))) (rows.set i.toNat (row.set j (.sl xs2)))) else e
       | _ => e
     | _ => e
   | none => e
 | _, _ => e
def thawN (n : Nat) (e : Env) : Env := thaw (n % 1000) (n / 1000 % 1000) (n / 1000000) e
def shrink (l : Nat) (e : Env) : Env := match e.gs l with
 | .win t v 0 m => match e.go t with
   | .obj v' ty esz false pu xs => if v = v' then if m ≤ xs.length then (e.put (.o t) (.obj (v' + 1) ty esz false pu (xs.take m))).put (.s l) (.ref t (v' + 1)) else e else e
   | _ => e
 | _ => e
def soil (t : Nat) (e : Env) : Env := match e.go t with
 | .obj v ty esz fz _ xs => e.put (.o t) (.obj v ty esz fz false xs)
 | _ => e
def pureO (t : Nat) (e : Env) : Env := match e.go t with
 | .obj v ty esz fz _ xs => e.put (.o t) (.obj v ty esz fz (rowsP xs) xs)
 | _ => e
def freeB : AV → Bool
 | .any | .dead _ => true
 | _ => false
def moveC (t b f l s j : Nat) (e : Env) : Env := match e.go t, e.go l, e.gs s with
 | .obj v ty esz fz pu xs, .obj vl tyl eszl false _ rows, .int _ i => match rows[i.toNat]? with
   | some row => match row[j]? with
     | some (.ref t2 v2) => if t2 = t ∧ v2 = v ∧ ¬ t = l ∧ ¬ (if f = 0 then b else b + i.toNat) = t ∧ ¬ (if f = 0 then b else b + i.toNat) = l ∧ (if f = 0 then b else b + i.toNat) < e.o.length ∧ freeB (e.go (if f = 0 then b else b + i.toNat)) = true then
        ((e.put (.o t) (.dead v)).put (.o (if f = 0 then b else b + i.toNat)) (.obj (nextVer (e.go (if f = 0 then b else b + i.toNat))) ty esz fz pu xs)).put (.o l)
          (.obj vl tyl eszl false false (rows.set i.toNat (row.set j (.ref (if f = 0 then b else b + i.toNat) (nextVer (e.go (if f = 0 then b else b + i.toNat)))))))
       else e
     | _ => e
   | none => e
 | _, _, _ => e
def thawI (t i j : Nat) (e : Env) : Env := match e.go t with
 | .obj v ty esz false pu rows => match rows[i]? with
   | some row => match row[j]? with
     | some (.ref t2 v2) => if t2 = t then e else match e.go t2 with
       | .obj v' ty2 esz2 fz2 true xs2 => if v2 = v' then (e.put (.o t2) (.obj v' ty2 esz2 true true xs2)).put (.o t) (.obj v ty esz false (rowsP (rows.set i (row.set j (.sl xs2)))) (rows.set i (row.set j (.sl xs2)))) else e
       | _ => e
     | _ => e
   | none => e
 | _ => e
def nilS (l : Nat) (e : Env) : Env := match e.gs l with
 | .nils => e.put (.s l) (.sl [])
 | _ => e
def hintN (n : Nat) (e : Env) : Env := if n / 1000000000000000000000 = 0 then soil n e else if n / 1000000000000000000000 = 1 then pureO (n % 1000000000000000000000) e
 else if n / 1000000000000000000000 = 3 then thawI (n % 1000) (n / 1000 % 1000) (n / 1000000 % 1000) e
 else if n / 1000000000000000000000 = 4 then nilS (n % 1000) e
 else moveC (n % 1000) (n / 1000 % 1000) (n / 1000000 % 10) (n / 10000000 % 1000) (n / 10000000000 % 1000) (n / 10000000000000 % 1000) e
def clrO : List Nat → Env → Env
 | [], e => e
 | t :: ts, e => clrO ts (if t < 1000000000 then killO t e else if t < 100000000000000000 then adoptN (t - 1000000000) e else if t < 100000000000000000000 then thawN (t - 100000000000000000) e else if t < 100000000000000000000000 then shrink (t - 100000000000000000000) e else hintN (t - 100000000000000000000000) e)
def clr (k : List Nat × List Nat) (e : Env) : Env := clrO k.2 (clrS k.1 e)
def firstReg : Code → Nat
 | .region id _ _ => id
 | .seq a _ => firstReg a
 | .block _ a => firstReg a
 | .loop a => firstReg a
 | _ => 0
def lookK : List (Nat × List Nat × List Nat) → Nat → List Nat × List Nat
 | [], _ => ([], [])
 | (i, k) :: rest, r => if i = r then k else lookK rest r
def awpReg (P : Program) (K : List (Nat × List Nat × List Nat)) (id : Nat) (ops : Array Oper) (draw : Bool) (e : Env) (Q : AEx → Env → Prop) : Prop := match lookJ K (2000000 + id) with
 | some (_, d, ks) => ∃ B : Bool, (if draw then awpDraw P ops.toList ops.toList e [] (fun e1 => clrS ks e1 = clrS ks (e.put (.s d) (.bool B))) else awpOps P K ops.toList 0 ops.toList e (fun e1 => clrS ks e1 = clrS ks (e.put (.s d) (.bool B)))) ∧
    Q .normal (clrS ks (e.put (.s d) (.bool B)))
 | none => if draw then awpDraw P ops.toList ops.toList e [] (Q .normal) else awpOps P K ops.toList 0 ops.toList e (Q .normal)
def pickP : List Nat → Env → (Env → Prop) → Prop
 | [], e, F => F e
 | _ :: _, e, F => ∃ hs : List Nat, F (clrO hs e)
def awp (P : Program) (K : List (Nat × List Nat × List Nat)) : Code → Env → (AEx → Env → Prop) → Prop
 | .skip, e, Q => Q .normal e
 | .region id ops draw, e, Q => pickP (lookK K (4000000 + id)).1 (clr (lookK K (3000000 + id)) e) fun e => awpReg P K id ops draw e Q
 | .seq a b, e, Q => awp P K a e fun x e' => match x with
   | .normal => awp P K b e' Q
   | x => Q x e'
 | .cond c t f, e, Q => match e.ev c with
   | .bool b => if b = true then awp P K t e Q else awp P K f e Q
   | .ub => awp P K t e Q ∧ awp P K f e Q
   | _ => False
 | .block id c, e, Q => awp P K c e fun x e' => match x with
   | .exit i => if i = id then Q .normal e' else Q (.exit i) e'
   | x => Q x e'
 | .exit id, e, Q => Q (.exit id) e
 | .ret, e, Q => Q .ret e
 | .loop c, e, Q => LoopOk (fun e R => awp P K c e R) (clr (lookK K (firstReg c))) Q e
 | _, _, _ => False
def wfCode (N : Nat) : Code → Bool
 | .skip | .exit _ | .ret => true
 | .region _ ops draw => dstOk N ops.toList && (!draw || regOk ops.toList)
 | .seq a b | .cond _ a b => wfCode N a && wfCode N b
 | .block _ a | .loop a => wfCode N a
 | _ => false
def resAV (P : Program) (e : Env) : List ResultVar → Option (List AV)
 | [] => some []
 | .tmp t :: rest => (resAV P e rest).map (e.gs t :: ·)
 | .cell a t :: rest => match e.load P t (e.gs a), resAV P e rest with
   | some x, some xs => some (x :: xs)
   | _, _ => none
def oneOr : List AV → AV
 | [x] => x
 | xs => .tup xs
def handed (P : Program) (e : Env) (rs : List ResultVar) : Option AV := match resAV P e rs with
 | some xs => (e.frzA xs).map fun p => oneOr p.1
 | none => none
def startE (N : Nat) (args : List AV) : Env := ⟨args ++ List.replicate (N - args.length) .any, List.replicate N .any⟩
section
variable {P : Program} {w0 : Bs} {Pr0 : Nat → Nat → Prop}
theorem Inv.killO {G : Gh} {e : Env} {tm : Array Value} {w : World} (t : Nat) (h : Inv w0 Pr0 G e tm w) : ∃ G', Inv w0 Pr0 G' (killO t e) tm w ∧ (Ab.killO t e).o.length = e.o.length := by
 unfold Ab.killO
 split
 · rename_i v ty esz fz pu xs ho
   have hlt : t < e.o.length := by
    rcases Nat.lt_or_ge t e.o.length with h | h
    · exact h
    · simp [Env.go, List.getD_eq_getElem?_getD, List.getElem?_eq_none h] at ho
   obtain ⟨G', _, hI, _⟩ := h.kill ho hlt
   exact ⟨G', hI, by simp⟩
 · exact ⟨G, h, rfl⟩
theorem Inv.cellAs {G : Gh} {e : Env} {tm : Array Value} {w : World} (h : Inv w0 Pr0 G e tm w) {l v : Nat} {oty : TypeId} {oesz : Nat} {row : List AV} {rows : List (List AV)} {j : Nat} {c0 c1 : AV}
 (ho : e.go l = .obj v oty oesz false false (row :: rows)) (hl : l < e.o.length) (hj : row[j]? = some c0) (hc : ∀ u, VRel G w c0 u → VRel G w c1 u) :
 Inv w0 Pr0 G (e.put (.o l) (.obj v oty oesz false false (row.set j c1 :: rows))) tm w where
 gle := h.gle
 below := h.below
 pr0 := h.pr0
 prB := h.prB
 gl := h.gl
 prlt := h.prlt
 len := by simp [h.len]
 slots := fun u a x h1 h2 => h.slots u a x (by simpa [Env.put] using h1) h2
 objs := fun u => by
  rw [Env.go_put_o]
  by_cases hu : l = u
  · subst hu
    rw [if_pos ⟨rfl, hl⟩]
    have := h.objs l
    rw [ho] at this
    obtain ⟨h1, h2, h3, g, h4, h5, h6, h7, h8⟩ := this
    refine ⟨h1, (fun h => by cases h), (fun x hx => ?_), g, h4, h5, (by simpa using h6), h7, ?_⟩
    · rcases List.mem_cons.1 hx with rfl | hx
      · rw [List.length_set]; exact h3 _ (List.mem_cons_self ..)
      · exact h3 _ (List.mem_cons_of_mem _ hx)
    · rcases h8 with h8 | ⟨blk, cs, k1, k2, k3, k4, k5, k6, k7, k8, k9⟩
      · cases h8.2
      · refine .inr ⟨blk, cs, k1, k2, k3, by simpa using k4, k5, k6, k7, fun i j' x a hx ha => ?_, fun o hp => absurd (k9 o hp).1 (by simp)⟩
        cases i with
        | zero =>
          simp only [List.getElem?_cons_zero, Option.some.injEq] at hx
          subst hx
          by_cases hjj : j = j'
          · subst hjj
            rw [List.getElem?_set_self (List.getElem?_eq_some_iff.1 hj).1] at ha
            cases ha
            obtain ⟨v', hv, hr⟩ := k8 0 j row c0 rfl hj
            exact ⟨v', hv, hc _ hr⟩
          · rw [List.getElem?_set_ne hjj] at ha
            exact k8 0 j' row a rfl ha
        | succ i => exact k8 (i + 1) j' x a (by simpa using hx) ha
  · rw [if_neg (fun q => hu q.1)]
    exact h.objs u
 sep := h.sep
theorem Inv.adopt {G : Gh} {e : Env} {tm : Array Value} {w : World} (d ty esz l j : Nat) (h : Inv w0 Pr0 G e tm w) : ∃ G', Inv w0 Pr0 G' (adopt d ty esz l j e) tm w ∧ (Ab.adopt d ty esz l j e).o.length = e.o.length := by
 have same : ∃ G', Inv w0 Pr0 G' e tm w ∧ e.o.length = e.o.length := ⟨G, h, rfl⟩
 have key : ∀ {G G' : Gh} {v : Nat}, GLe G w G' w → G'.ob d = some ⟨v, none, 0, 0, esz⟩ → G'.cnt d = v → ∀ u, VRel G w .nils u → VRel G' w (.ref d v) u := fun {G G' v} hle ho hcn u hu => by
  cases hu
  exact .ref _ _ _ (by omega) rfl (fun g hg he => by rw [ho] at hg; cases hg; rfl)
 cases j with
 | zero =>
   simp only [Ab.adopt]
   by_cases hd : d < e.o.length
   · rw [if_pos hd]
     split
     · rename_i hn
       obtain ⟨G', hle, hI, h4, h5⟩ := h.newEmpty d hd ty esz true none
       have hr := h.slot l
       rw [hn] at hr
       have := key hle h4 h5 _ hr
       refine ⟨G', ?_, by simp⟩
       have hp := hI.putS l this
       have he : tm.setIfInBounds l (tm.getD l undef) = tm := by
        apply Array.ext_getElem?
        intro i
        rw [Array.getElem?_setIfInBounds]
        split
        · rename_i hli; subst hli
          split
          · rename_i hlt; rw [Array.getElem?_eq_getElem hlt]; rfl
          · rename_i hlt; rw [Array.getElem?_eq_none (by omega)]
        · rfl
       rw [he] at hp
       exact hp
     · exact same
   · rw [if_neg hd]; exact same
 | succ j =>
   simp only [Ab.adopt]
   by_cases hd : d < e.o.length
   · rw [if_pos hd]
     by_cases hdl : d = l
     · rw [if_pos hdl]; exact same
     · rw [if_neg hdl]
       split
       · rename_i v oty oesz row rows ho
         split
         · rename_i hj
           obtain ⟨G', hle, hI, h4, h5⟩ := h.newEmpty d hd ty esz true none
           have hlt : l < e.o.length := by
            rcases Nat.lt_or_ge l e.o.length with h | h
            · exact h
            · simp [Env.go, List.getD_eq_getElem?_getD, List.getElem?_eq_none h] at ho
           have ho' : (e.put (.o d) (.obj (nextVer (e.go d)) ty esz false true [])).go l = .obj v oty oesz false false (row :: rows) := by
            rw [Env.go_put_o, if_neg (fun q => hdl q.1)]; exact ho
           refine ⟨G', hI.cellAs ho' (by simpa using hlt) hj (fun u hu => ?_), by simp⟩
           cases hu
           exact .ref _ _ _ (by omega) rfl (fun g hg he => by rw [h4] at hg; cases hg; rfl)
         · exact same
       · exact same
   · rw [if_neg hd]; exact same
theorem Inv.cellAt {w0 : Bs} {Pr0 : Nat → Nat → Prop} {G : Gh} {e : Env} {tm : Array Value} {w : World} (h : Inv w0 Pr0 G e tm w) {l v : Nat} {oty : TypeId} {oesz : Nat} {pu pu' : Bool} {rows : List (List AV)} {row : List AV} {i0 j : Nat} {c0 c1 : AV}
 (ho : e.go l = .obj v oty oesz false pu rows) (hl : l < e.o.length) (hi : rows[i0]? = some row) (hj : row[j]? = some c0) (hc : ∀ u, VRel G w c0 u → VRel G w c1 u)
 (hp : pu' = true → ∀ x ∈ rows.set i0 (row.set j c1), ∀ a ∈ x, AV.cellP a = true) :
 Inv w0 Pr0 G (e.put (.o l) (.obj v oty oesz false pu' (rows.set i0 (row.set j c1)))) tm w where
 gle := h.gle
 below := h.below
 pr0 := h.pr0
 prB := h.prB
 gl := h.gl
 prlt := h.prlt
 len := by simp [h.len]
 slots := fun u a x h1 h2 => h.slots u a x (by simpa [Env.put] using h1) h2
 objs := fun u => by
  rw [Env.go_put_o]
  by_cases hu : l = u
  · subst hu
    rw [if_pos ⟨rfl, hl⟩]
    have := h.objs l
    rw [ho] at this
    obtain ⟨h1, h2, h3, g, h4, h5, h6, h7, h8⟩ := this
    refine ⟨h1, hp, (fun x hx => ?_), g, h4, h5, (by simpa using h6), h7, ?_⟩
    · obtain ⟨k, hk⟩ := List.getElem?_of_mem hx
      rw [List.getElem?_set] at hk
      split at hk
      · split at hk
        · cases hk
          rw [List.length_set]; exact h3 _ (List.mem_of_getElem? hi)
        · cases hk
      · exact h3 _ (List.mem_of_getElem? hk)
    · rcases h8 with h8 | ⟨blk, cs, k1, k2, k3, k4, k5, k6, k7, k8, k9⟩
      · rw [h8.2] at hi; simp at hi
      · refine .inr ⟨blk, cs, k1, k2, k3, by simpa using k4, k5, k6, k7, fun i j' x a hx ha => ?_, fun o hp => absurd (k9 o hp).1 (by simp)⟩
        rw [List.getElem?_set] at hx
        split at hx
        · rename_i hii
          subst hii
          split at hx
          · cases hx
            by_cases hjj : j = j'
            · subst hjj
              rw [List.getElem?_set_self (List.getElem?_eq_some_iff.1 hj).1] at ha
              cases ha
              obtain ⟨v', hv, hr⟩ := k8 i0 j row c0 hi hj
              exact ⟨v', hv, hc _ hr⟩
            · rw [List.getElem?_set_ne hjj] at ha
              exact k8 i0 j' row a hi ha
          · cases hx
        · exact k8 i j' x a hx ha
  · rw [if_neg (fun q => hu q.1)]
    exact h.objs u
 sep := h.sep
theorem Inv.freezeAll {w0 : Bs} {Pr0 : Nat → Nat → Prop} {G : Gh} {e : Env} {tm : Array Value} {w : World} (hI : Inv w0 Pr0 G e tm w) {t ver : Nat} {ty : TypeId} {esz : Nat} {fz : Bool} {xs : List (List AV)} (ho : e.go t = .obj ver ty esz fz true xs) :
 ∃ G', GLe G w G' w ∧ Inv w0 Pr0 G' (e.put (.o t) (.obj ver ty esz true true xs)) tm w ∧ ∀ u, VRel G' w (.ref t ver) u → VRel G' w (.sl xs) u := by
 have hlt : t < e.o.length := by
  rcases Nat.lt_or_ge t e.o.length with h | h
  · exact h
  · simp [Env.go, List.getD_eq_getElem?_getD, List.getElem?_eq_none h] at ho
 obtain ⟨G', hle, hI', hob, hcnt, hpr⟩ := hI.freeze ho hlt
 have hO := hI.objs t
 rw [ho] at hO
 obtain ⟨_, hpu, hs, g, h4, h5, h6, h7, h8⟩ := hO
 refine ⟨G', hle, hI', fun u hx => ?_⟩
 cases hx with
 | ref _ _ _ hv h1 h =>
   have hg := h g (by rw [hob]; exact h4) h5
   rcases h8 with ⟨h8, h9⟩ | ⟨blk, arr, k1, k2, k3, k4, k5, k6, k7, k8, k9⟩
   · subst h9
     rw [hg, h6]
     exact .sl0 _ _
   · rw [hg, h6, k1]
     refine .sl xs blk 0 g.cap esz (fun i j => (arr[i * esz + j]?).getD undef) k4 hs (hpu rfl) (fun i j x a h1 h2 => ?_) (fun i j x a h1 h2 => ?_) (fun i j x a h1 h2 => ?_)
     · obtain ⟨u, hu, _⟩ := k8 i j x a h1 h2
       rw [cell_of_row _ _ _ _ _ _ k3, Nat.zero_add]
       simp only [hu, Option.getD_some]
     · rw [Nat.zero_add]
       refine hpr g blk h4 k7 k1 _ (idx_lt (List.getElem?_eq_some_iff.1 h1).1 ?_)
       rw [← hs x (List.mem_of_getElem? h1)]
       exact (List.getElem?_eq_some_iff.1 h2).1
     · obtain ⟨u, hu, hr⟩ := k8 i j x a h1 h2
       simp only [hu, Option.getD_some]
       exact hr.mono hle
theorem Inv.thaw {w0 : Bs} {Pr0 : Nat → Nat → Prop} {G : Gh} {e : Env} {tm : Array Value} {w : World} (t l j : Nat) (h : Inv w0 Pr0 G e tm w) : ∃ G', Inv w0 Pr0 G' (thaw t l j e) tm w ∧ (Ab.thaw t l j e).o.length = e.o.length := by
 have same : ∃ G', Inv w0 Pr0 G' e tm w ∧ e.o.length = e.o.length := ⟨G, h, rfl⟩
 unfold Ab.thaw
 split
 · rename_i v ty esz pu rows k i ho hl
   split
   · rename_i row hrow
     split
     · rename_i t2 v2 hj
       split
       · exact same
       · rename_i ht
         split
         · rename_i v' ty2 esz2 fz2 xs2 ho2
           split
           · rename_i hv
             subst hv
             obtain ⟨G', hle, hI', hR⟩ := h.freezeAll ho2
             have ho' : (e.put (.o t2) (.obj v2 ty2 esz2 true true xs2)).go t = .obj v ty esz false pu rows := by
              rw [Env.go_put_o, if_neg (fun q => ht q.1)]; exact ho
             have hlt : t < e.o.length := by
              rcases Nat.lt_or_ge t e.o.length with h | h
              · exact h
              · simp [Env.go, List.getD_eq_getElem?_getD, List.getElem?_eq_none h] at ho
             refine ⟨G', hI'.cellAt ho' (by simpa using hlt) hrow hj hR (fun hp x hx a ha => ?_), by simp⟩
             unfold rowsP at hp
             exact List.all_eq_true.1 (List.all_eq_true.1 hp x hx) a ha
           · exact same
         · exact same
     · exact same
   · exact same
 · exact same
theorem Inv.thawI {w0 : Bs} {Pr0 : Nat → Nat → Prop} {G : Gh} {e : Env} {tm : Array Value} {w : World} (t i j : Nat) (h : Inv w0 Pr0 G e tm w) : ∃ G', Inv w0 Pr0 G' (thawI t i j e) tm w ∧ (Ab.thawI t i j e).o.length = e.o.length := by
 have same : ∃ G', Inv w0 Pr0 G' e tm w ∧ e.o.length = e.o.length := ⟨G, h, rfl⟩
 unfold Ab.thawI
 split
 · rename_i v ty esz pu rows ho
   split
   · rename_i row hrow
     split
     · rename_i t2 v2 hj
       split
       · exact same
       · rename_i ht
         split
         · rename_i v' ty2 esz2 fz2 xs2 ho2
           split
           · rename_i hv
             subst hv
             obtain ⟨G', hle, hI', hR⟩ := h.freezeAll ho2
             have ho' : (e.put (.o t2) (.obj v2 ty2 esz2 true true xs2)).go t = .obj v ty esz false pu rows := by
              rw [Env.go_put_o, if_neg (fun q => ht q.1)]; exact ho
             have hlt : t < e.o.length := by
              rcases Nat.lt_or_ge t e.o.length with h | h
              · exact h
              · simp [Env.go, List.getD_eq_getElem?_getD, List.getElem?_eq_none h] at ho
             refine ⟨G', hI'.cellAt ho' (by simpa using hlt) hrow hj hR (fun hp x hx a ha => ?_), by simp⟩
             unfold rowsP at hp
             exact List.all_eq_true.1 (List.all_eq_true.1 hp x hx) a ha
           · exact same
         · exact same
     · exact same
   · exact same
 · exact same
theorem Inv.shrink {G : Gh} {e : Env} {tm : Array Value} {w : World} (l : Nat) (h : Inv w0 Pr0 G e tm w) : ∃ G', Inv w0 Pr0 G' (shrink l e) tm w ∧ (Ab.shrink l e).o.length = e.o.length := by
 have same : ∃ G', Inv w0 Pr0 G' e tm w ∧ e.o.length = e.o.length := ⟨G, h, rfl⟩
 unfold Ab.shrink
 split
 case h_2 => exact same
 rename_i t v m hl
 split
 case h_2 => exact same
 rename_i v' ty esz pu xs ho
 split
 case isFalse => exact same
 rename_i hv
 subst hv
 split
 case isFalse => exact same
 rename_i hm
 have hlt : t < e.o.length := by
  rcases Nat.lt_or_ge t e.o.length with h | h
  · exact h
  · simp [Env.go, List.getD_eq_getElem?_getD, List.getElem?_eq_none h] at ho
 have hob := h.objs t
 rw [ho] at hob
 obtain ⟨hcnt, hpu, hs, g, h4, h5, h6, h7, h8⟩ := hob
 have hr := h.slot l
 rw [hl] at hr
 generalize hvv : tm.getD l undef = u at hr
 cases hr with
 | win _ _ _ _ _ hvc h1 hw =>
 obtain ⟨A, rfl, hcap, hb⟩ := hw g h4 h5
 have hbase : 0 < g.cap → A = g.base := fun hc => by
  obtain ⟨b, hb1, rfl⟩ := hb hc
  rw [hb1, Nat.zero_mul]
 have hmt : (xs.take m).length = m := by rw [List.length_take]; omega
 let G' := setOb G t (some ⟨v + 1, A, m, g.cap, esz⟩) (v + 1)
 have hle : GLe G w G' w := by
  refine ⟨fun _ _ h => h, fun t' => ?_, fun t' g' hg => ?_, fun b o v hp hc => hc⟩
  · simp only [G', setOb]; split
    · subst_vars; omega
    · exact Nat.le_refl _
  · simp only [G', setOb] at hg; split at hg
    · subst_vars; cases hg; exact .inl (by simp only; omega)
    · exact .inr hg
 have hI' : Inv w0 Pr0 G' (e.put (.o t) (.obj (v + 1) ty esz false pu (xs.take m))) tm w := {
  gle := h.gle.trans hle
  below := h.below
  pr0 := h.pr0
  prB := h.prB
  gl := h.gl
  prlt := h.prlt
  len := by simp [h.len]
  slots := fun t a v h1 h2 => (h.slots t a v (by simpa [Env.put] using h1) h2).mono hle
  objs := fun t' => by
   rw [Env.go_put_o]
   by_cases ht : t = t'
   · subst ht
     rw [if_pos ⟨rfl, hlt⟩]
     refine ⟨by simp [G', setOb], fun hp x hx => hpu hp x (List.mem_of_mem_take hx), fun x hx => hs x (List.mem_of_mem_take hx), ⟨v + 1, A, m, g.cap, esz⟩, by simp [G', setOb], rfl, hmt.symm, rfl, ?_⟩
     rcases h8 with ⟨q1, q2⟩ | ⟨blk, cs, k1, k2, k3, k4, k5, k6, k7, k8, k9⟩
     · exact .inl ⟨q1, by rw [q2]; simp⟩
     · refine .inr ⟨blk, cs, by rw [← k1]; exact hbase k7, k2, k3, by rw [hmt]; show m ≤ g.cap; omega, k5, k6, k7, fun i j x a hx ha => ?_, fun o ho => absurd (k9 o ho).1 (by simp)⟩
       rw [List.getElem?_take] at hx
       split at hx
       · obtain ⟨v, hv, hr⟩ := k8 i j x a hx ha
         exact ⟨v, hv, hr.mono hle⟩
       · cases hx
   · rw [if_neg (fun q => ht q.1)]
     exact (h.objs t').mono hle (by simp [G', setOb, Ne.symm ht]) (by simp [G', setOb, Ne.symm ht]) (fun g blk hg hc hb hge => ⟨rfl, fun o _ ho => ho⟩)
  sep := fun t1 t2 g1 g2 hne hg hg' hc hc' => by
   simp only [G', setOb] at hg hg'
   split at hg
   · split at hg'
     · subst_vars; exact absurd rfl hne
     · cases hg
       have := h.sep t1 t2 g g2 hne (by subst_vars; exact h4) hg' hc hc'
       simp only at hc ⊢
       rw [hbase hc]; exact this
   · split at hg'
     · cases hg'
       have := h.sep t1 t2 g1 g hne hg (by subst_vars; exact h4) hc hc'
       simp only at hc' ⊢
       rw [hbase hc']; exact this
     · exact h.sep t1 t2 g1 g2 hne hg hg' hc hc' }
 refine ⟨G', ?_, by simp⟩
 have hp := hI'.putS l (a := .ref t (v + 1)) (v := tm.getD l undef) (by
  rw [hvv]
  refine .ref t (v + 1) _ (by simp [G', setOb]) rfl (fun g' hg' he' => ?_)
  simp only [G', setOb, if_true] at hg'
  cases hg'
  simp)
 have he : tm.setIfInBounds l (tm.getD l undef) = tm := by
  apply Array.ext_getElem?
  intro i
  rw [Array.getElem?_setIfInBounds]
  split
  · rename_i hli; subst hli
    split
    · rename_i hlt; rw [Array.getElem?_eq_getElem hlt]; rfl
    · rename_i hlt; rw [Array.getElem?_eq_none (by omega)]
  · rfl
 rw [he] at hp
 exact hp
theorem Inv.repu {G : Gh} {e : Env} {tm : Array Value} {w : World} (h : Inv w0 Pr0 G e tm w) {t v : Nat} {ty : TypeId} {esz : Nat} {fz pu pu' : Bool} {xs : List (List AV)} (ho : e.go t = .obj v ty esz fz pu xs) (hp : pu' = true → ∀ x ∈ xs, ∀ a ∈ x, AV.cellP a = true) :
 Inv w0 Pr0 G (e.put (.o t) (.obj v ty esz fz pu' xs)) tm w where
 gle := h.gle
 below := h.below
 pr0 := h.pr0
 prB := h.prB
 gl := h.gl
 prlt := h.prlt
 len := by simp [h.len]
 slots := fun u a x h1 h2 => h.slots u a x (by simpa [Env.put] using h1) h2
 objs := fun u => by
  rw [Env.go_put_o]
  split
  · rename_i hq
    obtain ⟨rfl, _⟩ := hq
    have := h.objs t
    rw [ho] at this
    obtain ⟨h1, _, h3⟩ := this
    exact ⟨h1, hp, h3⟩
  · exact h.objs u
 sep := h.sep
theorem Inv.soil {G : Gh} {e : Env} {tm : Array Value} {w : World} (t : Nat) (h : Inv w0 Pr0 G e tm w) : ∃ G', Inv w0 Pr0 G' (soil t e) tm w ∧ (Ab.soil t e).o.length = e.o.length := by
 unfold Ab.soil
 split
 · rename_i ho
   exact ⟨G, h.repu ho (fun q => by cases q), by simp⟩
 · exact ⟨G, h, rfl⟩
theorem Inv.pureO {G : Gh} {e : Env} {tm : Array Value} {w : World} (t : Nat) (h : Inv w0 Pr0 G e tm w) : ∃ G', Inv w0 Pr0 G' (pureO t e) tm w ∧ (Ab.pureO t e).o.length = e.o.length := by
 unfold Ab.pureO
 split
 · rename_i ho
   exact ⟨G, h.repu ho (fun hp x hx a ha => List.all_eq_true.1 (List.all_eq_true.1 (by unfold rowsP at hp; exact hp) x hx) a ha), by simp⟩
 · exact ⟨G, h, rfl⟩
theorem olt_of {e : Env} {t v : Nat} {ty : TypeId} {esz : Nat} {fz pu : Bool} {xs : List (List AV)} (ho : e.go t = .obj v ty esz fz pu xs) : t < e.o.length := by
 rcases Nat.lt_or_ge t e.o.length with h | h
 · exact h
 · simp [Env.go, List.getD_eq_getElem?_getD, List.getElem?_eq_none h] at ho
theorem Inv.moveTo {G : Gh} {e : Env} {tm : Array Value} {w : World} (h : Inv w0 Pr0 G e tm w) {t t' l v vl i j : Nat} {ty tyl : TypeId} {esz eszl : Nat} {fz pu pul : Bool} {xs rows : List (List AV)} {row : List AV}
 (ho : e.go t = .obj v ty esz fz pu xs) (hl : e.go l = .obj vl tyl eszl false pul rows) (hi : rows[i]? = some row) (hj : row[j]? = some (.ref t v)) (n1 : ¬ t = l) (n2 : ¬ t' = t) (n3 : ¬ t' = l) (hlt : t' < e.o.length) (hfr : freeB (e.go t') = true) :
 ∃ G', Inv w0 Pr0 G' (((e.put (.o t) (.dead v)).put (.o t') (.obj (nextVer (e.go t')) ty esz fz pu xs)).put (.o l) (.obj vl tyl eszl false false (rows.set i (row.set j (.ref t' (nextVer (e.go t'))))))) tm w := by
 have hO := h.objs t
 rw [ho] at hO
 obtain ⟨hcnt, hpu, hs, g, g1, g2, g3, g4, g5⟩ := hO
 have hnv : nextVer (e.go t') = G.cnt t' + 1 := (h.objs t').cnt_next
 have hno : G.ob t' = none := by
  have := h.objs t'
  revert hfr this
  cases e.go t' <;> simp only [freeB, ObRel] <;> intro q1 q2 <;> first | exact q2.2 | cases q1
 generalize nextVer (e.go t') = nv at *
 have holt := olt_of ho
 have hllt := olt_of hl
 let G' : Gh := { G with ob := fun u => if u = t' then some { g with ver := nv } else if u = t then none else G.ob u, cnt := fun u => if u = t' then nv else G.cnt u }
 have e1 : G'.ob t' = some { g with ver := nv } := by simp [G']
 have e2 : G'.ob t = none := by show (if t = t' then _ else if t = t then none else G.ob t) = none; rw [if_neg (fun q => n2 q.symm), if_pos rfl]
 have e3 : ∀ u, ¬ u = t' → ¬ u = t → G'.ob u = G.ob u := fun u q1 q2 => by simp only [G']; rw [if_neg q1, if_neg q2]
 have c1 : G'.cnt t' = nv := by simp [G']
 have c2 : ∀ u, ¬ u = t' → G'.cnt u = G.cnt u := fun u q => by simp only [G']; rw [if_neg q]
 have hle : GLe G w G' w := by
  refine ⟨fun _ _ h => h, fun u => ?_, fun u g' hg => ?_, fun b o v hp hc => hc⟩
  · by_cases q : u = t'
    · subst q; rw [c1]; omega
    · rw [c2 u q]; exact Nat.le_refl _
  · by_cases q : u = t'
    · subst q; rw [e1] at hg; cases hg
      exact .inl (by show G.cnt u < nv; omega)
    · by_cases q2 : u = t
      · subst q2; rw [e2] at hg; cases hg
      · rw [e3 u q q2] at hg; exact .inr hg
 have hcell : ∀ u, VRel G w (.ref t v) u → VRel G' w (.ref t' nv) u := fun u hu => by
  cases hu with
  | ref _ _ _ a1 a2 a3 =>
    refine .ref _ _ _ (by rw [c1]; exact Nat.le_refl _) a2 fun g' hg' _ => ?_
    rw [e1] at hg'; cases hg'
    exact a3 g g1 g2
 have gob : ∀ u, (((e.put (.o t) (.dead v)).put (.o t') (.obj nv ty esz fz pu xs)).put (.o l) (.obj vl tyl eszl false false (rows.set i (row.set j (.ref t' nv))))).go u =
  if u = l then .obj vl tyl eszl false false (rows.set i (row.set j (.ref t' nv))) else if u = t' then .obj nv ty esz fz pu xs else if u = t then .dead v else e.go u := fun u => by
  rw [Env.go_put_o, Env.go_put_o, Env.go_put_o]
  simp only [Env.put_olen, hllt, hlt, holt, and_true]
  by_cases q1 : u = l
  · rw [if_pos q1.symm, if_pos q1]
  · rw [if_neg (fun q => q1 q.symm), if_neg q1]
    by_cases q2 : u = t'
    · rw [if_pos q2.symm, if_pos q2]
    · rw [if_neg (fun q => q2 q.symm), if_neg q2]
      by_cases q3 : u = t
      · rw [if_pos q3.symm, if_pos q3]
      · rw [if_neg (fun q => q3 q.symm), if_neg q3]
 refine ⟨G', ?_⟩
 exact {
  gle := h.gle.trans hle
  below := h.below
  pr0 := h.pr0
  prB := h.prB
  gl := h.gl
  prlt := h.prlt
  len := by simp [h.len]
  slots := fun u a x h1 h2 => (h.slots u a x (by simpa [Env.put] using h1) h2).mono hle
  objs := fun u => by
   rw [gob]
   by_cases q1 : u = l
   · subst q1
     rw [if_pos rfl]
     have hL := h.objs u
     rw [hl] at hL
     obtain ⟨l1, _, l3, gl, l4, l5, l6, l7, l8⟩ := hL
     have hne : ¬ u = t := fun q => n1 q.symm
     refine ⟨by rw [c2 u (fun q => n3 q.symm)]; exact l1, (fun q => by cases q), (fun x hx => ?_), gl, by rw [e3 u (fun q => n3 q.symm) hne]; exact l4, l5, by simpa using l6, l7, ?_⟩
     · obtain ⟨k, hk⟩ := List.getElem?_of_mem hx
       rw [List.getElem?_set] at hk
       split at hk
       · split at hk
         · cases hk
           rw [List.length_set]; exact l3 _ (List.mem_of_getElem? hi)
         · cases hk
       · exact l3 _ (List.mem_of_getElem? hk)
     · rcases l8 with l8 | ⟨blk, cs, k1, k2, k3, k4, k5, k6, k7, k8, k9⟩
       · rw [l8.2] at hi; simp at hi
       · refine .inr ⟨blk, cs, k1, k2, k3, by simpa using k4, k5, k6, k7, fun i' j' x a hx ha => ?_, fun o hp => absurd (k9 o hp).1 (by simp)⟩
         rw [List.getElem?_set] at hx
         split at hx
         · rename_i hii
           subst hii
           split at hx
           · cases hx
             by_cases hjj : j = j'
             · subst hjj
               rw [List.getElem?_set_self (List.getElem?_eq_some_iff.1 hj).1] at ha
               cases ha
               obtain ⟨v', hv, hr⟩ := k8 i j row _ hi hj
               exact ⟨v', hv, hcell _ hr⟩
             · rw [List.getElem?_set_ne hjj] at ha
               obtain ⟨v', hv, hr⟩ := k8 i j' row a hi ha
               exact ⟨v', hv, hr.mono hle⟩
           · cases hx
         · obtain ⟨v', hv, hr⟩ := k8 i' j' x a hx ha
           exact ⟨v', hv, hr.mono hle⟩
   · rw [if_neg q1]
     by_cases q2 : u = t'
     · subst q2
       rw [if_pos rfl]
       refine ⟨c1, hpu, hs, { g with ver := nv }, e1, rfl, g3, g4, ?_⟩
       rcases g5 with g5 | ⟨blk, cs, k1, k2, k3, k4, k5, k6, k7, k8, k9⟩
       · exact .inl g5
       · refine .inr ⟨blk, cs, k1, k2, k3, k4, k5, k6, k7, fun i j x a hx ha => ?_, k9⟩
         obtain ⟨v', hv, hr⟩ := k8 i j x a hx ha
         exact ⟨v', hv, hr.mono hle⟩
     · rw [if_neg q2]
       by_cases q3 : u = t
       · subst q3
         rw [if_pos rfl]
         exact ⟨by rw [c2 u q2]; exact hcnt, e2⟩
       · rw [if_neg q3]
         exact (h.objs u).mono hle (e3 u q2 q3) (c2 u q2) (fun g blk hg hc hb hge => ⟨rfl, fun o _ ho => ho⟩)
  sep := fun t1 t2 a1 a2 hne h1 h2 d1 d2 => by
   by_cases q1 : t1 = t'
   · subst q1
     rw [e1] at h1; cases h1
     have q2 : ¬ t2 = t1 := fun q => hne q.symm
     by_cases q3 : t2 = t
     · subst q3; rw [e2] at h2; cases h2
     · rw [e3 t2 q2 q3] at h2
       exact h.sep t t2 g a2 (fun q => q3 q.symm) g1 h2 d1 d2
   · by_cases q3 : t1 = t
     · subst q3; rw [e2] at h1; cases h1
     rw [e3 t1 q1 q3] at h1
     by_cases q2 : t2 = t'
     · subst q2
       rw [e1] at h2; cases h2
       exact h.sep t1 t a1 g q3 h1 g1 d1 d2
     · by_cases q4 : t2 = t
       · subst q4; rw [e2] at h2; cases h2
       · rw [e3 t2 q2 q4] at h2
         exact h.sep t1 t2 a1 a2 hne h1 h2 d1 d2 }
theorem Inv.moveC {G : Gh} {e : Env} {tm : Array Value} {w : World} (t b f l s j : Nat) (h : Inv w0 Pr0 G e tm w) : ∃ G', Inv w0 Pr0 G' (moveC t b f l s j e) tm w ∧ (Ab.moveC t b f l s j e).o.length = e.o.length := by
 have same : ∃ G', Inv w0 Pr0 G' e tm w ∧ e.o.length = e.o.length := ⟨G, h, rfl⟩
 unfold Ab.moveC
 split
 case h_2 => exact same
 rename_i v ty esz fz pu xs vl tyl eszl pul rows k i ho hl hs
 split
 case h_2 => exact same
 rename_i row hrow
 split
 case h_2 => exact same
 rename_i t2 v2 hj
 generalize (if f = 0 then b else b + i.toNat) = t'
 split
 case isFalse => exact same
 rename_i hc
 obtain ⟨rfl, rfl, n1, n2, n3, h5, h6⟩ := hc
 obtain ⟨G', hI⟩ := h.moveTo ho hl hrow hj n1 n2 n3 h5 h6
 exact ⟨G', hI, by simp⟩
theorem Inv.nilS {G : Gh} {e : Env} {tm : Array Value} {w : World} (l : Nat) (h : Inv w0 Pr0 G e tm w) : ∃ G', Inv w0 Pr0 G' (nilS l e) tm w ∧ (Ab.nilS l e).o.length = e.o.length := by
 unfold Ab.nilS
 split
 · rename_i hn
   have hr := h.slot l
   rw [hn] at hr
   have hv : VRel G w (.sl []) (tm.getD l undef) := by
    generalize tm.getD l undef = u at hr
    cases hr
    exact .sl0 none 0
   have hp := h.putS l hv
   have he : tm.setIfInBounds l (tm.getD l undef) = tm := by
    apply Array.ext_getElem?
    intro i
    rw [Array.getElem?_setIfInBounds]
    split
    · rename_i hli; subst hli
      split
      · rename_i hlt; rw [Array.getElem?_eq_getElem hlt]; rfl
      · rename_i hlt; rw [Array.getElem?_eq_none (by omega)]
    · rfl
   rw [he] at hp
   exact ⟨G, hp, by simp⟩
 · exact ⟨G, h, rfl⟩
theorem Inv.hintN {G : Gh} {e : Env} {tm : Array Value} {w : World} (n : Nat) (h : Inv w0 Pr0 G e tm w) : ∃ G', Inv w0 Pr0 G' (hintN n e) tm w ∧ (Ab.hintN n e).o.length = e.o.length := by
 unfold Ab.hintN
 split
 · exact h.soil _
 · split
   · exact h.pureO _
   · split
     · exact h.thawI _ _ _
     · split
       · exact h.nilS _
       · exact h.moveC _ _ _ _ _ _
theorem Inv.clrO {tm : Array Value} {w : World} : ∀ (ks : List Nat) {G : Gh} {e : Env}, Inv w0 Pr0 G e tm w → ∃ G', Inv w0 Pr0 G' (clrO ks e) tm w ∧ (Ab.clrO ks e).o.length = e.o.length
 | [], G, _, h => ⟨G, h, rfl⟩
 | k :: ks, _, e, h => by
   have h0 : ∃ G', Inv w0 Pr0 G' (if k < 1000000000 then Ab.killO k e else if k < 100000000000000000 then adoptN (k - 1000000000) e else if k < 100000000000000000000 then thawN (k - 100000000000000000) e else if k < 100000000000000000000000 then Ab.shrink (k - 100000000000000000000) e else Ab.hintN (k - 100000000000000000000000) e) tm w ∧ (if k < 1000000000 then Ab.killO k e else if k < 100000000000000000 then adoptN (k - 1000000000) e else if k < 100000000000000000000 then thawN (k - 100000000000000000) e else if k < 100000000000000000000000 then Ab.shrink (k - 100000000000000000000) e else Ab.hintN (k - 100000000000000000000000) e).o.length = e.o.length := by
    split
    · exact h.killO k
    · split
      · exact h.adopt _ _ _ _ _
      · split
        · exact h.thaw _ _ _
        · split
          · exact h.shrink _
          · exact h.hintN _
   obtain ⟨G1, h1, h2⟩ := h0
   obtain ⟨G2, h3, h4⟩ := Inv.clrO ks h1
   exact ⟨G2, h3, by rw [Ab.clrO, h4, h2]⟩
theorem Inv.clr {tm : Array Value} {w : World} {G : Gh} {e : Env} (k : List Nat × List Nat) (h : Inv w0 Pr0 G e tm w) : ∃ G', Inv w0 Pr0 G' (clr k e) tm w ∧ (Ab.clr k e).o.length = e.o.length := by
 obtain ⟨h1, h2⟩ := h.clrS k.1
 obtain ⟨G2, h3, h4⟩ := h1.clrO k.2
 exact ⟨G2, h3, by unfold Ab.clr; rw [h4, h2]⟩
theorem loopSound {c : Code} {N : Nat} {F : Env → (AEx → Env → Prop) → Prop} {k : List Nat × List Nat}
 (hbody : ∀ (G : Gh) (e : Env) (a : Act) (w : World) (R : AEx → Env → Prop) (Q : Exit → Act → World → Prop), Inv w0 Pr0 G e a.tmps w → a.defers = [] → e.o.length = N →
   (∀ x G' e' tm' w', R x e' → e'.o.length = N → Inv w0 Pr0 G' e' tm' w' → Q x.to ⟨tm', []⟩ w') → F e R → c.wp P Q a w)
 {R : AEx → Env → Prop} {Q : Exit → Act → World → Prop} (hQ : ∀ x G' e' tm' w', x ≠ .normal → R x e' → e'.o.length = N → Inv w0 Pr0 G' e' tm' w' → Q x.to ⟨tm', []⟩ w')
 {e : Env} (h : LoopOk F (clr k) R e) : ∀ (G : Gh) (a : Act) (w : World), Inv w0 Pr0 G e a.tmps w → a.defers = [] → e.o.length = N → ∀ (b : Frame) (K : List Item) (cs : List Frame),
  ∃ x a' w', Q x a' w' ∧ Arrives P (lone (b.at a (.code c :: .inLoop c :: K)) cs w) b K cs x a' w' := by
 induction h with
 | mk e R1 h hn hx ih =>
   intro G a w hI hd hN b K cs
   obtain ⟨G1, I1, l1⟩ := hI.clr k
   have hb := hbody G1 (clr k e) a w R1 (Exit.then (fun a1 w1 => ∃ G' e', R1 .normal e' ∧ e'.o.length = N ∧ Inv w0 Pr0 G' e' a1.tmps w1 ∧ a1.defers = []) Q) I1 hd (by rw [l1, hN]) (fun x G' e' tm' w' hR hN' hI' => by
    cases x with
    | normal => exact ⟨G', e', hR, hN', hI', rfl⟩
    | exit id => exact hQ (.exit id) G' e' tm' w' (by simp) (hx _ _ (by simp) hR) hN' hI'
    | ret => exact hQ .ret G' e' tm' w' (by simp) (hx _ _ (by simp) hR) hN' hI') h
   obtain ⟨x, a₁, w₁, hq, harr⟩ := hb b (.inLoop c :: K) cs
   cases x with
   | normal =>
     obtain ⟨G', e', hR, hN', hI', hd'⟩ := hq
     obtain ⟨e₂, a₂, w₂, hq₂, harr₂⟩ := ih e' hR G' a₁ w₁ hI' hd' hN' b K cs
     exact ⟨e₂, a₂, w₂, hq₂, .of_steps (Steps.trans harr (.one step_inLoop)) harr₂⟩
   | exit id => exact ⟨_, a₁, w₁, hq, .pass (x := .inLoop c) rfl (fun _ _ => .inl (by simp)) harr⟩
   | goto l => exact ⟨_, a₁, w₁, hq, .pass (x := .inLoop c) rfl (fun _ _ => .inl (by simp)) harr⟩
   | ret => exact ⟨_, a₁, w₁, hq, .pass (x := .inLoop c) rfl (fun _ _ => .inl (by simp)) harr⟩
   | panic ch => exact ⟨_, a₁, w₁, hq, .pass (x := .inLoop c) rfl (fun _ _ => .inl (by simp)) harr⟩
   | outgrown => exact ⟨_, a₁, w₁, hq, .pass (x := .inLoop c) rfl (fun _ _ => .inl (by simp)) harr⟩
theorem awpSound (hm : P.follows .mixedOrders = true) {K : List (Nat × List Nat × List Nat)} {N : Nat} : ∀ (c : Code), wfCode N c = true → ∀ (G : Gh) (e : Env) (a : Act) (w : World) (R : AEx → Env → Prop) (Q : Exit → Act → World → Prop), Inv w0 Pr0 G e a.tmps w → a.defers = [] → e.o.length = N →
 (∀ x G' e' tm' w', R x e' → e'.o.length = N → Inv w0 Pr0 G' e' tm' w' → Q x.to ⟨tm', []⟩ w') → awp P K c e R → c.wp P Q a w := by
 intro c
 induction c with
 | skip =>
   intro _ G e a w R Q hI hd hN hQ h
   obtain ⟨tm, ds⟩ := a
   simp only at hd; subst hd
   exact wp_skip (hQ .normal G e tm w h hN hI)
 | region id ops draw =>
   intro hwf G0 e0 a w R Q hI0 hd hN0 hQ h
   simp only [wfCode, Bool.and_eq_true] at hwf
   obtain ⟨G1, hI1, hN1⟩ := hI0.clr (lookK K (3000000 + id))
   simp only [awp] at h
   obtain ⟨e, G, hI, hN, h⟩ : ∃ e G, Inv w0 Pr0 G e a.tmps w ∧ e.o.length = N ∧ awpReg P K id ops draw e R := by
    generalize (lookK K (4000000 + id)).1 = ks at h
    cases ks with
    | nil => exact ⟨_, G1, hI1, hN1.trans hN0, h⟩
    | cons k ks =>
      obtain ⟨hs, h⟩ := h
      obtain ⟨G2, h2, h3⟩ := hI1.clrO hs
      exact ⟨_, G2, h2, h3.trans (hN1.trans hN0), h⟩
   have plain : ∀ R' : Env → Prop, (∀ G' e' tm' w', R' e' → e'.o.length = N → Inv w0 Pr0 G' e' tm' w' → Q .normal ⟨tm', []⟩ w') →
    (if draw then awpDraw P ops.toList ops.toList e [] R' else awpOps P K ops.toList 0 ops.toList e R') → (Code.region id ops draw).wp P Q a w := fun R' hQ' h' => by
    cases draw with
    | true =>
      simp only [if_true] at h'
      exact drawSound hm hQ' hI hd hN hwf.1 (by simpa using hwf.2) h'
    | false =>
      simp only [Bool.false_eq_true, if_false] at h'
      refine wp_region_list (opsSound hQ' ops.toList 0 G e a w hI hd hN (fun o ho d hdd => ?_) h')
      have := List.all_eq_true.1 hwf.1 o ho
      rw [hdd] at this
      exact of_decide_eq_true this
   simp only [awpReg] at h
   split at h
   · rename_i m d ks _
     obtain ⟨B, h1, h2⟩ := h
     refine plain _ (fun G' e' tm' w' hR hN' hI' => ?_) h1
     obtain ⟨h3, h4⟩ := hI'.clrS ks
     rw [hR] at h3 h4
     exact hQ .normal G' _ tm' w' h2 (h4.trans hN') h3
   · exact plain _ (fun G' e' tm' w' hR hN' hI' => hQ .normal G' e' tm' w' hR hN' hI') h
 | seq x y ihx ihy =>
   intro hwf G e a w R Q hI hd hN hQ h
   simp only [wfCode, Bool.and_eq_true] at hwf
   simp only [awp] at h
   refine wp_seq (ihx hwf.1 G e a w _ _ hI hd hN (fun z G' e' tm' w' hR hN' hI' => ?_) h)
   cases z with
   | normal => exact ihy hwf.2 G' e' ⟨tm', []⟩ w' R Q hI' rfl hN' hQ hR
   | exit id => exact hQ (.exit id) G' e' tm' w' hR hN' hI'
   | ret => exact hQ .ret G' e' tm' w' hR hN' hI'
 | cond c x y ihx ihy =>
   intro hwf G e a w R Q hI hd hN hQ h
   simp only [wfCode, Bool.and_eq_true] at hwf
   simp only [awp] at h
   cases hb : e.ev c with
   | bool b =>
     rw [hb] at h
     have hv := hI.ev c
     rw [hb] at hv
     have hvv : a.eval c = .bool b := by generalize a.eval c = q at hv; cases hv; rfl
     cases b with
     | true => exact wp_cond_true hvv (ihx hwf.1 G e a w R Q hI hd hN hQ (by simpa using h))
     | false => exact wp_cond_false hvv (ihy hwf.2 G e a w R Q hI hd hN hQ (by simpa using h))
   | ub =>
     rw [hb] at h
     have hv := hI.ev c
     rw [hb] at hv
     have hvv : ∃ b, a.eval c = .bool b := by generalize a.eval c = q at hv; cases hv; exact ⟨_, rfl⟩
     obtain ⟨b, hvv⟩ := hvv
     cases b with
     | true => exact wp_cond_true hvv (ihx hwf.1 G e a w R Q hI hd hN hQ h.1)
     | false => exact wp_cond_false hvv (ihy hwf.2 G e a w R Q hI hd hN hQ h.2)
   | _ => rw [hb] at h; exact h.elim
 | block id c ih =>
   intro hwf G e a w R Q hI hd hN hQ h
   simp only [wfCode] at hwf
   simp only [awp] at h
   refine wp_block (ih hwf G e a w _ _ hI hd hN (fun z G' e' tm' w' hR hN' hI' => ?_) h)
   cases z with
   | normal => exact hQ .normal G' e' tm' w' hR hN' hI'
   | exit i =>
     simp only [AEx.to, Exit.inBlock]
     simp only at hR
     split
     · rename_i hi; rw [if_pos hi] at hR; exact hQ .normal G' e' tm' w' hR hN' hI'
     · rename_i hi; rw [if_neg hi] at hR; exact hQ (.exit i) G' e' tm' w' hR hN' hI'
   | ret => exact hQ .ret G' e' tm' w' hR hN' hI'
 | loop c ih =>
   intro hwf G e a w R Q hI hd hN hQ h
   simp only [wfCode] at hwf
   simp only [awp] at h
   intro b k cs
   obtain ⟨x, a', w', hq, harr⟩ := loopSound (P := P) (c := c) (fun G e a w R Q hI hd hN hQ h => ih hwf G e a w R Q hI hd hN hQ h) (fun x G' e' tm' w' _ hR hN' hI' => hQ x G' e' tm' w' hR hN' hI') h G a w hI hd hN b k cs
   exact ⟨x, a', w', hq, .of_steps (.one step_loop) harr⟩
 | exit id =>
   intro _ G e a w R Q hI hd hN hQ h
   obtain ⟨tm, ds⟩ := a
   simp only at hd; subst hd
   exact wp_exit (hQ (.exit id) G e tm w h hN hI)
 | ret =>
   intro _ G e a w R Q hI hd hN hQ h
   obtain ⟨tm, ds⟩ := a
   simp only at hd; subst hd
   exact wp_ret (hQ .ret G e tm w h hN hI)
 | _ => intro hwf; simp [wfCode] at hwf
theorem results_run {G : Gh} {e : Env} {a : Act} {w : World} (hI : Inv w0 Pr0 G e a.tmps w) (g : ResultVar → Sem Value) (g1 : ∀ t, g (.tmp t) = pure (a.tmps.getD t undef)) (g2 : ∀ q t, g (.cell q t) = do loadVar t (← asAddr (a.tmps.getD q undef))) :
 ∀ (rs : List ResultVar) (xs : List AV), resAV P e rs = some xs →
 ∃ vs : List Value, vs.length = xs.length ∧ (rs.mapM g).run P w = .ok vs w ∧ ∀ (i : Nat) (x : AV), xs[i]? = some x → VRel G w x (vs.getD i undef)
 | [], xs, h => by
   simp only [resAV, Option.some.injEq] at h
   subst h
   exact ⟨[], rfl, by simp, fun i x hx => by simp at hx⟩
 | .tmp t :: rest, xs, h => by
   simp only [resAV] at h
   cases hr : resAV P e rest with
   | none => rw [hr] at h; cases h
   | some ys =>
     rw [hr] at h
     simp only [Option.map_some, Option.some.injEq] at h
     subst h
     obtain ⟨vs, h1, h2, h3⟩ := results_run hI g g1 g2 rest ys hr
     refine ⟨a.tmps.getD t undef :: vs, by simp [h1], ?_, fun i x hx => ?_⟩
     · simp only [List.mapM_cons, Sem.run_bind, g1, Sem.run_pure, Result.andThen_ok, h2]
     · cases i with
       | zero => simp only [List.getElem?_cons_zero, Option.some.injEq] at hx; subst hx; exact hI.slot t
       | succ i => exact h3 i x (by simpa using hx)
 | .cell q t :: rest, xs, h => by
   simp only [resAV] at h
   cases hl : e.load P t (e.gs q) with
   | none => rw [hl] at h; simp at h
   | some y =>
   cases hr : resAV P e rest with
   | none => rw [hl, hr] at h; simp at h
   | some ys =>
     rw [hl, hr] at h
     simp only [Option.some.injEq] at h
     subst h
     obtain ⟨vs, h1, h2, h3⟩ := results_run hI g g1 g2 rest ys hr
     obtain ⟨v, hv1, hv2⟩ := hI.run_load (P := P) (hI.slot q) hl
     have hp : ∃ ad, a.tmps.getD q undef = .pointer (some ad) := by
      have hc : ∃ cs, e.cellsAt (e.gs q) = some cs := by
       unfold Env.load at hl
       cases hc : e.cellsAt (e.gs q) with
       | none => rw [hc] at hl; simp at hl
       | some cs => exact ⟨cs, rfl⟩
      obtain ⟨cs, hc⟩ := hc
      obtain ⟨b, o, V, hv, _⟩ := hI.cellsAt (hI.slot q) hc
      exact ⟨_, hv⟩
     obtain ⟨ad, hp⟩ := hp
     refine ⟨v :: vs, by simp [h1], ?_, fun i x hx => ?_⟩
     · rw [hp] at hv1
       simp only [Instr.loadAt, Instr.sureAddr, Sem.run_bind, Sem.run_pure, Result.andThen_ok] at hv1
       simp only [List.mapM_cons, Sem.run_bind, g2, hp, asAddr, Sem.run_pure, Result.andThen_ok, hv1, h2]
     · cases i with
       | zero => simp only [List.getElem?_cons_zero, Option.some.injEq] at hx; subst hx; exact hv2
       | succ i => exact h3 i x (by simpa using hx)
theorem one_of {vs : List Value} (h : 1 = vs.length) : (if h : vs.toArray.size = 1 then vs.toArray[0] else .tuple vs.toArray) = vs.getD 0 undef := by
 match vs, h with
 | [v], _ => rfl
theorem none_of {vs : List Value} (h : 0 = vs.length) : (if h : vs.toArray.size = 1 then vs.toArray[0] else .tuple vs.toArray) = .tuple #[] := by
 match vs, h with
 | [], _ => rfl
theorem good_of_awp {f : FuncId} {fn : Func} {c : Code} {args : List AV} {r : AV} (K : List (Nat × List Nat × List Nat)) (hm : P.follows .mixedOrders = true) (hf : P.funcs[f]? = some fn) (hb : fn.body = some c) (hwf : wfCode fn.ntmps c = true)
 (h : awp P K c (startE fn.ntmps args) fun x e => match x with
   | .exit _ => False
   | _ => handed P e fn.results.toList = some r) (hr : r.pureR = true) : Good P f args r := by
 refine ⟨hr, fun w Pr vs hsz hvs hpr hgl => ?_⟩
 refine calls_of_wp hf hb ?_
 let G : Gh := ⟨Pr, fun _ => none, fun _ => 0⟩
 have hI : Inv ⟨w, fun _ => False, G⟩ Pr G (startE fn.ntmps args) (vs ++ Array.replicate (fn.ntmps - vs.size) undef) w := {
  gle := GLe.refl _ _
  below := BelowX.refl _
  pr0 := fun _ _ h => h
  prB := fun _ _ _ h => h
  gl := hgl
  prlt := hpr
  len := by simp [startE, hsz]
  slots := fun t a v h1 h2 => by
   by_cases ht : t < args.length
   · simp only [startE] at h1
     rw [List.getElem?_append_left ht] at h1
     rw [Array.getElem?_append_left (by omega)] at h2
     exact hvs t a v h1 h2
   · simp only [startE] at h1
     rw [List.getElem?_append_right (by omega), List.getElem?_replicate] at h1
     split at h1
     · cases h1; exact .any v
     · cases h1
  objs := fun t => by
   have : (startE fn.ntmps args).go t = .any := by
    simp only [startE, Env.go, List.getD_eq_getElem?_getD, List.getElem?_replicate]
    split <;> rfl
   rw [this]
   exact ⟨rfl, rfl⟩
  sep := fun t t' g g' _ h _ _ _ => by cases h }
 refine awpSound hm c hwf G _ ⟨_, []⟩ w _ _ hI rfl (by simp [startE]) (fun x G' e' tm' w' hR hN' hI' => ?_) h
 have fin : handed P e' fn.results.toList = some r → ∃ v, (results fn tm').run P w' = .ok v w' ∧
  ∃ v' Pr', Ending.returned v = .returned v' ∧ VRel ⟨Pr', fun _ => none, fun _ => 0⟩ w' r v' ∧ (∀ b o, Pr b o → Pr' b o) ∧ (∀ b o, b < w.heap.size → Pr' b o → Pr b o) ∧ (∀ b o, Pr' b o → b < w'.heap.size) ∧ BelowD w w' := by
  intro hh
  unfold handed at hh
  cases hx : resAV P e' fn.results.toList with
  | none => rw [hx] at hh; cases hh
  | some xs =>
    rw [hx] at hh
    simp only at hh
    cases hz : e'.frzA xs with
    | none => rw [hz] at hh; cases hh
    | some q =>
      obtain ⟨ys, ws⟩ := q
      rw [hz] at hh
      simp only [Option.map_some, Option.some.injEq] at hh
      obtain ⟨vs', h1, h2, h3⟩ := results_run (P := P) (a := ⟨tm', []⟩) hI' (fun r => match r with
       | .tmp t => pure (tm'.getD t undef)
       | .cell q t => do loadVar t (← asAddr (tm'.getD q undef))) (fun _ => rfl) (fun _ _ => rfl) fn.results.toList xs hx
      obtain ⟨G2, l2, I2, _, n2, R2, p2⟩ := frzA_sound (a := ⟨tm', []⟩) xs ys ws G' e' (fun i => vs'.getD i undef) (Sam.refl e') hI' h3 hz
      have hrun : ∀ v, v = (if h : vs'.toArray.size = 1 then vs'.toArray[0] else .tuple vs'.toArray) → (results fn tm').run P w' = .ok v w' := by
       intro v hv
       unfold results
       rw [Array.mapM_eq_mapM_toList]
       simp only [Sem.run_bind, Sem.run_map]
       have h2' := h2
       refine (congrArg (fun q => (Result.andThen q fun a w' => Result.ok a.toArray w').andThen fun a w' => Sem.run P (pure (if h : a.size = 1 then a[0] else Value.tuple a)) w') (?_ : _ = Result.ok vs' w')).trans ?_
       · exact h2'
       simp only [Result.andThen_ok, Sem.run_pure]
       rw [hv]
      refine ⟨_, hrun _ rfl, _, G2.pr, rfl, ?_, fun b o hp => I2.pr0 b o hp, fun b o hb hp => I2.prB b o (fun q => q.elim (fun q => by have q' : w.heap.size ≤ b := q; omega) id) hp, I2.prlt, ⟨⟨I2.below.os, I2.below.tape, I2.below.output, I2.below.size, fun k hk => I2.below.block k (fun q => q.elim (fun q => by have q' : w.heap.size ≤ k := q; omega) id)⟩, I2.below.dr⟩⟩
      have hat : ∀ i x, ys[i]? = some x → VRel ⟨G2.pr, fun _ => none, fun _ => 0⟩ w' x (vs'.getD i undef) := fun i x hx =>
       (R2 i x hx).pure_congr' (G := G2) (G' := ⟨G2.pr, fun _ => none, fun _ => 0⟩) (fun _ _ h => h) (fun _ _ _ _ h => h) (p2 x (List.mem_of_getElem? hx))
      have hlen : ys.length = vs'.length := by rw [n2, h1]
      rw [← hh]
      match ys, hlen, hat with
      | [x], hlen, hat =>
        rw [one_of hlen]
        exact hat 0 x rfl
      | [], hlen, hat =>
        rw [none_of hlen]
        exact .tup [] #[] rfl (fun i c v hc => by simp at hc)
      | x :: y :: ys, hlen, hat =>
        have h2l : vs'.toArray.size ≠ 1 := by simp only [List.size_toArray, ← hlen, List.length_cons]; omega
        rw [dif_neg h2l]
        refine .tup _ _ (by simp [← hlen]) (fun i c v hc hv => ?_)
        have := hat i c hc
        rw [List.getElem?_toArray] at hv
        rw [List.getD_eq_getElem?_getD, hv] at this
        exact this
 cases x with
 | normal => obtain ⟨v, h1, h2⟩ := fin hR; exact ⟨rfl, v, h1, h2⟩
 | ret => obtain ⟨v, h1, h2⟩ := fin hR; exact ⟨rfl, v, h1, h2⟩
 | exit id => exact hR.elim
theorem goodM_of_awp {f : FuncId} {fn : Func} {c : Code} {os args : List AV} {r : AV} {out : List (Nat × AV)} (K : List (Nat × List Nat × List Nat)) (hm : P.follows .mixedOrders = true) (hf : P.funcs[f]? = some fn) (hb : fn.body = some c) (hwf : wfCode (fn.ntmps + os.length) c = true)
 (h : awp P K c (startM fn.ntmps args os) fun x e => match x with
   | .exit _ => False
   | _ => (resAV P e fn.results.toList).map oneOr = some r ∧ ∀ p ∈ out, e.go p.1 = p.2) : GoodM P f fn.ntmps os args r out := by
 intro w G vs hsz hvs hpr hgl hobj hsep
 refine calls_of_wp hf hb ?_
 have hI : Inv ⟨w, blksOf G, G⟩ G.pr G (startM fn.ntmps args os) (vs ++ Array.replicate (fn.ntmps - vs.size) undef) w := {
  gle := GLe.refl _ _
  below := BelowX.refl _
  pr0 := fun _ _ h => h
  prB := fun _ _ _ h => h
  gl := hgl
  prlt := hpr
  len := by simp [startM, hsz]
  slots := fun t a v h1 h2 => by
   by_cases ht : t < args.length
   · simp only [startM] at h1
     rw [List.getElem?_append_left ht] at h1
     rw [Array.getElem?_append_left (by omega)] at h2
     exact hvs t a v h1 h2
   · simp only [startM] at h1
     rw [List.getElem?_append_right (by omega), List.getElem?_replicate] at h1
     split at h1
     · cases h1; exact .any v
     · cases h1
  objs := fun t => by
   have ho := hobj t
   revert ho
   cases (startM fn.ntmps args os).go t with
   | obj ver ty esz fz pu xs =>
     rintro ⟨h1, h2, h3, g, h4, h5, h6, h7, h8⟩
     refine ⟨h1, h2, h3, g, h4, h5, h6, h7, ?_⟩
     rcases h8 with h8 | ⟨blk, cs, k1, k2, k3, k4, k5, k6, k7, k8, k9⟩
     · exact .inl h8
     · exact .inr ⟨blk, cs, k1, .inr ⟨t, g, h4, k7, k1⟩, k3, k4, k5, k6, k7, k8, k9⟩
   | iter ver s pos =>
     rintro ⟨h1, g, blk, h4, h5, k1, k7, k2, k3, k9⟩
     exact ⟨h1, g, blk, h4, h5, k1, k7, .inr ⟨t, g, h4, k7, k1⟩, k3, k9⟩
   | _ => exact id
  sep := hsep }
 refine awpSound hm c hwf G _ ⟨_, []⟩ w _ _ hI rfl (by simp [startM]) (fun x G' e' tm' w' hR hN' hI' => ?_) h
 have fin : ((resAV P e' fn.results.toList).map oneOr = some r ∧ ∀ p ∈ out, e'.go p.1 = p.2) → ∃ v, (results fn tm').run P w' = .ok v w' ∧
  ∃ v' G2, Ending.returned v = .returned v' ∧ VRel G2 w' r v' ∧ GLe G w G2 w' ∧
  (∀ b o, b < w.heap.size → ¬ blksOf G b → G2.pr b o → G.pr b o) ∧ (∀ b o, G2.pr b o → b < w'.heap.size) ∧ BelowX ⟨w, blksOf G, G⟩ w' ∧
  (∀ p ∈ out, ObRel G2 w' (Bs.own ⟨w, blksOf G, G⟩) p.1 p.2) ∧ SepG G2 := by
  rintro ⟨hh, hgo⟩
  cases hx : resAV P e' fn.results.toList with
  | none => rw [hx] at hh; cases hh
  | some xs =>
    rw [hx] at hh
    simp only [Option.map_some, Option.some.injEq] at hh
    obtain ⟨vs', h1, h2, h3⟩ := results_run (P := P) (a := ⟨tm', []⟩) hI' (fun r => match r with
     | .tmp t => pure (tm'.getD t undef)
     | .cell q t => do loadVar t (← asAddr (tm'.getD q undef))) (fun _ => rfl) (fun _ _ => rfl) fn.results.toList xs hx
    have hrun : ∀ v, v = (if h : vs'.toArray.size = 1 then vs'.toArray[0] else .tuple vs'.toArray) → (results fn tm').run P w' = .ok v w' := by
     intro v hv
     unfold results
     rw [Array.mapM_eq_mapM_toList]
     simp only [Sem.run_bind, Sem.run_map]
     have h2' := h2
     refine (congrArg (fun q => (Result.andThen q fun a w' => Result.ok a.toArray w').andThen fun a w' => Sem.run P (pure (if h : a.size = 1 then a[0] else Value.tuple a)) w') (?_ : _ = Result.ok vs' w')).trans ?_
     · exact h2'
     simp only [Result.andThen_ok, Sem.run_pure]
     rw [hv]
    refine ⟨_, hrun _ rfl, _, G', rfl, ?_, hI'.gle, fun b o hb hn hp => hI'.prB b o (fun q => q.elim (fun q => by have q' : w.heap.size ≤ b := q; omega) hn) hp, hI'.prlt, hI'.below, fun p hp => by rw [← hgo p hp]; exact hI'.objs p.1, hI'.sep⟩
    have hlen : xs.length = vs'.length := by rw [h1]
    rw [← hh]
    match xs, hlen, h3 with
    | [x], hlen, h3 =>
      rw [show oneOr [x] = x from rfl, one_of hlen]
      exact h3 0 x rfl
    | [], hlen, h3 =>
      rw [show oneOr [] = .tup [] from rfl, none_of hlen]
      exact .tup [] #[] rfl (fun i c v hc => by simp at hc)
    | x :: y :: ys, hlen, h3 =>
      have h2l : vs'.toArray.size ≠ 1 := by simp only [List.size_toArray, ← hlen, List.length_cons]; omega
      rw [dif_neg h2l]
      refine .tup _ _ (by simp [← hlen]) (fun i c v hc hv => ?_)
      have := h3 i c hc
      rw [List.getElem?_toArray] at hv
      rw [List.getD_eq_getElem?_getD, hv] at this
      exact this
 cases x with
 | normal => obtain ⟨v, h1, h2⟩ := fin hR; exact ⟨rfl, v, h1, h2⟩
 | ret => obtain ⟨v, h1, h2⟩ := fin hR; exact ⟨rfl, v, h1, h2⟩
 | exit id => exact hR.elim
theorem goodM_of_awpA (ads : List Nat) {f : FuncId} {fn : Func} {c : Code} {os args : List AV} {r : AV} {out : List (Nat × AV)} (K : List (Nat × List Nat × List Nat)) (hm : P.follows .mixedOrders = true) (hf : P.funcs[f]? = some fn) (hb : fn.body = some c) (hwf : wfCode (fn.ntmps + os.length) c = true)
 (h : awp P K c (startM fn.ntmps args os) fun x e => match x with
   | .exit _ => False
   | _ => (resAV P (clrO ads e) fn.results.toList).map oneOr = some r ∧ ∀ p ∈ out, (clrO ads e).go p.1 = p.2) : GoodM P f fn.ntmps os args r out := by
 intro w G vs hsz hvs hpr hgl hobj hsep
 refine calls_of_wp hf hb ?_
 have hI : Inv ⟨w, blksOf G, G⟩ G.pr G (startM fn.ntmps args os) (vs ++ Array.replicate (fn.ntmps - vs.size) undef) w := {
  gle := GLe.refl _ _
  below := BelowX.refl _
  pr0 := fun _ _ h => h
  prB := fun _ _ _ h => h
  gl := hgl
  prlt := hpr
  len := by simp [startM, hsz]
  slots := fun t a v h1 h2 => by
   by_cases ht : t < args.length
   · simp only [startM] at h1
     rw [List.getElem?_append_left ht] at h1
     rw [Array.getElem?_append_left (by omega)] at h2
     exact hvs t a v h1 h2
   · simp only [startM] at h1
     rw [List.getElem?_append_right (by omega), List.getElem?_replicate] at h1
     split at h1
     · cases h1; exact .any v
     · cases h1
  objs := fun t => by
   have ho := hobj t
   revert ho
   cases (startM fn.ntmps args os).go t with
   | obj ver ty esz fz pu xs =>
     rintro ⟨h1, h2, h3, g, h4, h5, h6, h7, h8⟩
     refine ⟨h1, h2, h3, g, h4, h5, h6, h7, ?_⟩
     rcases h8 with h8 | ⟨blk, cs, k1, k2, k3, k4, k5, k6, k7, k8, k9⟩
     · exact .inl h8
     · exact .inr ⟨blk, cs, k1, .inr ⟨t, g, h4, k7, k1⟩, k3, k4, k5, k6, k7, k8, k9⟩
   | iter ver s pos =>
     rintro ⟨h1, g, blk, h4, h5, k1, k7, k2, k3, k9⟩
     exact ⟨h1, g, blk, h4, h5, k1, k7, .inr ⟨t, g, h4, k7, k1⟩, k3, k9⟩
   | _ => exact id
  sep := hsep }
 refine awpSound hm c hwf G _ ⟨_, []⟩ w _ _ hI rfl (by simp [startM]) (fun x G1 e1 tm' w' hR hN' hI1 => ?_) h
 obtain ⟨G', hI', -⟩ := Inv.clrO ads hI1
 have fin : ((resAV P (clrO ads e1) fn.results.toList).map oneOr = some r ∧ ∀ p ∈ out, (clrO ads e1).go p.1 = p.2) → ∃ v, (results fn tm').run P w' = .ok v w' ∧
  ∃ v' G2, Ending.returned v = .returned v' ∧ VRel G2 w' r v' ∧ GLe G w G2 w' ∧
  (∀ b o, b < w.heap.size → ¬ blksOf G b → G2.pr b o → G.pr b o) ∧ (∀ b o, G2.pr b o → b < w'.heap.size) ∧ BelowX ⟨w, blksOf G, G⟩ w' ∧
  (∀ p ∈ out, ObRel G2 w' (Bs.own ⟨w, blksOf G, G⟩) p.1 p.2) ∧ SepG G2 := by
  rintro ⟨hh, hgo⟩
  cases hx : resAV P (clrO ads e1) fn.results.toList with
  | none => rw [hx] at hh; cases hh
  | some xs =>
    rw [hx] at hh
    simp only [Option.map_some, Option.some.injEq] at hh
    obtain ⟨vs', h1, h2, h3⟩ := results_run (P := P) (a := ⟨tm', []⟩) hI' (fun r => match r with
     | .tmp t => pure (tm'.getD t undef)
     | .cell q t => do loadVar t (← asAddr (tm'.getD q undef))) (fun _ => rfl) (fun _ _ => rfl) fn.results.toList xs hx
    have hrun : ∀ v, v = (if h : vs'.toArray.size = 1 then vs'.toArray[0] else .tuple vs'.toArray) → (results fn tm').run P w' = .ok v w' := by
     intro v hv
     unfold results
     rw [Array.mapM_eq_mapM_toList]
     simp only [Sem.run_bind, Sem.run_map]
     have h2' := h2
     refine (congrArg (fun q => (Result.andThen q fun a w' => Result.ok a.toArray w').andThen fun a w' => Sem.run P (pure (if h : a.size = 1 then a[0] else Value.tuple a)) w') (?_ : _ = Result.ok vs' w')).trans ?_
     · exact h2'
     simp only [Result.andThen_ok, Sem.run_pure]
     rw [hv]
    refine ⟨_, hrun _ rfl, _, G', rfl, ?_, hI'.gle, fun b o hb hn hp => hI'.prB b o (fun q => q.elim (fun q => by have q' : w.heap.size ≤ b := q; omega) hn) hp, hI'.prlt, hI'.below, fun p hp => by rw [← hgo p hp]; exact hI'.objs p.1, hI'.sep⟩
    have hlen : xs.length = vs'.length := by rw [h1]
    rw [← hh]
    match xs, hlen, h3 with
    | [x], hlen, h3 =>
      rw [show oneOr [x] = x from rfl, one_of hlen]
      exact h3 0 x rfl
    | [], hlen, h3 =>
      rw [show oneOr [] = .tup [] from rfl, none_of hlen]
      exact .tup [] #[] rfl (fun i c v hc => by simp at hc)
    | x :: y :: ys, hlen, h3 =>
      have h2l : vs'.toArray.size ≠ 1 := by simp only [List.size_toArray, ← hlen, List.length_cons]; omega
      rw [dif_neg h2l]
      refine .tup _ _ (by simp [← hlen]) (fun i c v hc hv => ?_)
      have := h3 i c hc
      rw [List.getElem?_toArray] at hv
      rw [List.getD_eq_getElem?_getD, hv] at this
      exact this
 cases x with
 | normal => obtain ⟨v, h1, h2⟩ := fin hR; exact ⟨rfl, v, h1, h2⟩
 | ret => obtain ⟨v, h1, h2⟩ := fin hR; exact ⟨rfl, v, h1, h2⟩
 | exit id => exact hR.elim
end
end Go.Proofs.YtbhgehhmjpipiaaGreatDoor.Ab
