/- A region whose order the model draws: whatever order is drawn, the same state comes of it. -/
import Derived.Test.YtbhgehhmjpipiaaGreatDoorAb11
set_option linter.unusedSectionVars false
set_option linter.unusedSimpArgs false
set_option linter.unusedVariables false
namespace Go.Proofs.YtbhgehhmjpipiaaGreatDoor.Ab
open Go Go.RowKit
variable [Inhabited DW]
def ddp : List Nat → List Nat
 | [] => []
 | a :: l => if (ddp l).contains a then ddp l else a :: ddp l
theorem mem_ddp {i : Nat} : ∀ {l : List Nat}, i ∈ ddp l → i ∈ l
 | [], h => h
 | a :: l, h => by
   rw [ddp] at h
   split at h
   · exact List.mem_cons_of_mem _ (mem_ddp h)
   · rcases List.mem_cons.1 h with rfl | h
     · exact List.mem_cons_self ..
     · exact List.mem_cons_of_mem _ (mem_ddp h)
def befsGo : List Oper → List (List Nat) → List (List Nat)
 | [], acc => acc
 | o :: rest, acc => befsGo rest (acc ++ [ddp ((o.after.toList.filter (Region.binds .any)).flatMap fun ed => ed.on :: acc.getD ed.on [])])
def befs (all : List Oper) : List (List Nat) := befsGo all []
def slotFree (all : List Oper) (x y : Oper) : Bool :=
 (match x.dst with
  | some d => !(rdS all y).contains d && y.dst != some d
  | none => true) &&
 (match y.dst with
  | some d => !(rdS all x).contains d
  | none => true)
def objFree (x y : List Nat × List Nat) : Bool := x.2.all (fun t => !y.1.contains t && !y.2.contains t) && y.2.all fun t => !x.1.contains t
def pairsOk (n : Nat) (b : List (List Nat)) (f : Nat → Nat → Bool) : Bool := (List.range n).all fun j => (List.range j).all fun i => (b.getD j []).contains i || f i j
def dstOk (N : Nat) (all : List Oper) : Bool := all.all fun o => match o.dst with
 | some d => decide (d < N)
 | none => true
def backOk (all : List Oper) : Bool := (List.range all.length).all fun j => match all[j]? with
 | some o => o.after.toList.all fun ed => !Region.binds .any ed || decide (ed.on < j)
 | none => true
def regOk (all : List Oper) : Bool := backOk all && pairsOk all.length (befs all) fun i j => match all[i]?, all[j]? with
 | some x, some y => slotFree all x y
 | _, _ => true
def objOk (all : List Oper) (tr : List (List Nat × List Nat)) : Bool := pairsOk all.length (befs all) fun i j => objFree (tr.getD i ([], [])) (tr.getD j ([], []))
def wrO (ws : Ws) : List Nat := ws.filterMap fun c => match c.1 with
 | .o t => some t
 | .s _ => none
def awpDraw (P : Program) (all : List Oper) : List Oper → Env → List (List Nat × List Nat) → (Env → Prop) → Prop
 | [], e, tr, Q => objOk all tr = true ∧ Q e
 | o :: rest, e, tr, Q => awpOp P all e o fun ws => awpDraw P all rest (e.puts ws) (tr ++ [(rdO e o, wrO ws)]) Q
inductive Bef (all : List Oper) : Nat → Nat → Prop
 | one {j : Nat} {o : Oper} {ed : Edge} (h : all[j]? = some o) (he : ed ∈ o.after.toList) (hb : Region.binds .any ed = true) : Bef all ed.on j
 | more {i k j : Nat} (h1 : Bef all i k) (h2 : Bef all k j) : Bef all i j
theorem befsGo_spec (all : List Oper) : ∀ (l : List Oper) (acc : List (List Nat)), (∀ k, l[k]? = all[acc.length + k]?) → (∀ j i, i ∈ acc.getD j [] → Bef all i j) → ∀ j i, i ∈ (befsGo l acc).getD j [] → Bef all i j
 | [], acc, _, h, j, i, hi => h j i hi
 | o :: rest, acc, hl, h, j, i, hi => by
   refine befsGo_spec all rest _ (fun k => ?_) (fun j i hi => ?_) j i hi
   · have := hl (k + 1)
     simp only [List.getElem?_cons_succ] at this
     rw [this, List.length_append]
     congr 1
     simp only [List.length_cons, List.length_nil]; omega
   · rw [List.getD_eq_getElem?_getD] at hi
     rcases Nat.lt_trichotomy j acc.length with hj | hj | hj
     · rw [List.getElem?_append_left hj, ← List.getD_eq_getElem?_getD] at hi
       exact h j i hi
     · subst hj
       rw [List.getElem?_append_right (Nat.le_refl _)] at hi
       simp only [Nat.sub_self, List.getElem?_cons_zero, Option.getD_some] at hi
       obtain ⟨ed, hed, hi⟩ := List.mem_flatMap.1 (mem_ddp hi)
       obtain ⟨he1, he2⟩ := List.mem_filter.1 hed
       have ho : all[acc.length]? = some o := by have := hl 0; simpa using this.symm
       rcases List.mem_cons.1 hi with rfl | hi
       · exact .one ho he1 he2
       · exact .more (h _ _ hi) (.one ho he1 he2)
     · rw [List.getElem?_append_right (by omega), List.getElem?_eq_none (by simp; omega)] at hi
       cases hi
theorem befs_spec {all : List Oper} {i j : Nat} (h : (((befs all).getD j []).contains i) = true) : Bef all i j :=
 befsGo_spec all all [] (by simp) (fun j i hi => by simp at hi) j i (show i ∈ (befs all).getD j [] from by simpa using h)
theorem pairsOk_spec {n : Nat} {b : List (List Nat)} {f : Nat → Nat → Bool} (h : pairsOk n b f = true) {i j : Nat} (hij : i < j) (hj : j < n) : ((b.getD j []).contains i) = true ∨ f i j = true := by
 unfold pairsOk at h
 rw [List.all_eq_true] at h
 have h1 := h j (List.mem_range.2 hj)
 rw [List.all_eq_true] at h1
 have h2 := h1 i (List.mem_range.2 hij)
 simpa [Bool.or_eq_true] using h2
theorem Env.get_put {e : Env} {c c' : Comp} {x : AV} (h : c ≠ c') : (e.put c x).get c' = e.get c' := by
 cases c with
 | s t =>
   cases c' with
   | s u =>
     have : t ≠ u := fun q => h (by rw [q])
     simp [Env.put, Env.get, Env.gs, List.getD_eq_getElem?_getD, List.getElem?_set_ne this]
   | o u => rfl
 | o t =>
   cases c' with
   | s u => rfl
   | o u =>
     have : t ≠ u := fun q => h (by rw [q])
     simp [Env.put, Env.get, Env.go, List.getD_eq_getElem?_getD, List.getElem?_set_ne this]
theorem Env.get_puts {c : Comp} : ∀ {ws : Ws} {e : Env}, c ∉ ws.map (·.1) → (e.puts ws).get c = e.get c
 | [], e, _ => rfl
 | w :: ws, e, h => by
   simp only [List.map_cons, List.mem_cons, not_or] at h
   simp only [Env.puts]
   rw [Env.get_puts h.2, Env.get_put (Ne.symm h.1)]
theorem Env.get_put_same {e e' : Env} {c : Comp} {x : AV} (hs : e.s.length = e'.s.length) (ho : e.o.length = e'.o.length) : (e.put c x).get c = (e'.put c x).get c := by
 cases c with
 | s t =>
   simp only [Env.put, Env.get, Env.gs, List.getD_eq_getElem?_getD, List.getElem?_set]
   by_cases h : t < e.s.length
   · simp [h, ← hs]
   · simp [h, ← hs]
 | o t =>
   simp only [Env.put, Env.get, Env.go, List.getD_eq_getElem?_getD, List.getElem?_set]
   by_cases h : t < e.o.length
   · simp [h, ← ho]
   · simp [h, ← ho]
theorem Env.puts_congr {c : Comp} : ∀ {ws : Ws} {e e' : Env}, e.s.length = e'.s.length → e.o.length = e'.o.length → (c ∈ ws.map (·.1) ∨ e.get c = e'.get c) → (e.puts ws).get c = (e'.puts ws).get c
 | [], e, e', _, _, h => by
   rcases h with h | h
   · cases h
   · exact h
 | w :: ws, e, e', hs, ho, h => by
   simp only [Env.puts]
   refine Env.puts_congr (by simp [hs]) (by simp [ho]) ?_
   by_cases hw : c ∈ ws.map (·.1)
   · exact .inl hw
   · right
     by_cases hc : w.1 = c
     · subst hc; exact Env.get_put_same hs ho
     · rw [Env.get_put hc, Env.get_put hc]
       rcases h with h | h
       · simp only [List.map_cons, List.mem_cons] at h
         rcases h with h | h
         · exact absurd h.symm hc
         · exact absurd h hw
       · exact h
theorem Env.ext_get {e e' : Env} (hs : e.s.length = e'.s.length) (ho : e.o.length = e'.o.length) (h : ∀ c, e.get c = e'.get c) : e = e' := by
 obtain ⟨s, o⟩ := e
 obtain ⟨s', o'⟩ := e'
 simp only at hs ho
 congr 1
 · apply List.ext_getElem hs
   intro t h1 h2
   have := h (.s t)
   simpa [Env.get, Env.gs, List.getD_eq_getElem?_getD, h1, h2] using this
 · apply List.ext_getElem ho
   intro t h1 h2
   have := h (.o t)
   simpa [Env.get, Env.go, List.getD_eq_getElem?_getD, h1, h2] using this
theorem draw_trace {P : Program} {all : List Oper} {Q : Env → Prop} : ∀ (l : List Oper) (e : Env) (tr : List (List Nat × List Nat)), awpDraw P all l e tr Q →
 ∃ (E : Nat → Env) (W : Nat → Ws), E 0 = e ∧ (∀ k o, l[k]? = some o → awpOp P all (E k) o (· = W k) ∧ OnlyDst o (W k) ∧ E (k + 1) = (E k).puts (W k)) ∧
  objOk all (tr ++ (List.range l.length).map fun k => (rdO (E k) (l.getD k default), wrO (W k))) = true ∧ Q (E l.length)
 | [], e, tr, h => ⟨fun _ => e, fun _ => [], rfl, fun k o hk => by simp at hk, by simpa using h.1, h.2⟩
 | o :: rest, e, tr, h => by
   obtain ⟨ws, h1, h2, h3⟩ := awpOp_wit h
   obtain ⟨E, W, q0, q1, q2, q3⟩ := draw_trace rest _ _ h1
   refine ⟨fun | 0 => e | k + 1 => E k, fun | 0 => ws | k + 1 => W k, rfl, fun k o' hk => ?_, ?_, q3⟩
   · cases k with
     | zero =>
       simp only [List.getElem?_cons_zero, Option.some.injEq] at hk
       subst hk
       exact ⟨h3 _ rfl, h2, q0⟩
     | succ k =>
       rw [List.getElem?_cons_succ] at hk
       exact q1 k o' hk
   · rw [List.length_cons, List.range_succ_eq_map, List.map_cons, List.map_map]
     rw [List.append_assoc] at q2
     exact q2
section
variable {P : Program} {w0 : Bs} {Pr0 : Nat → Nat → Prop}
def ClosedL (all : List Oper) (L : Nat → Prop) : Prop := ∀ j o, all[j]? = some o → L j → ∀ ed ∈ o.after.toList, Region.binds .any ed = true → L ed.on
theorem Bef.listed {all : List Oper} {L : Nat → Prop} (hc : ClosedL all L) {i j : Nat} (h : Bef all i j) : L j → L i := by
 induction h with
 | one h he hb => intro hj; exact hc _ _ h hj _ he hb
 | more _ _ ih1 ih2 => intro hj; exact ih1 (ih2 hj)
theorem Bef.ready {all : List Oper} {L : Nat → Prop} (hc : ClosedL all L) {i j : Nat} (h : Bef all i j) : (∀ o, all[j]? = some o → ∀ ed ∈ o.after.toList, Region.binds .any ed = true → L ed.on) → L i := by
 induction h with
 | one h he hb => intro hr; exact hr _ h _ he hb
 | more h1 _ _ ih2 => intro hr; exact h1.listed hc (ih2 hr)
theorem E_const {E : Nat → Env} {W : Nat → Ws} {c : Comp} {n : Nat} (hE : ∀ k, k < n → E (k + 1) = (E k).puts (W k)) {p q : Nat} (hpq : p ≤ q) (hq : q ≤ n) (h : ∀ k, p ≤ k → k < q → c ∉ (W k).map (·.1)) : (E q).get c = (E p).get c := by
 induction q with
 | zero => have : p = 0 := by omega
           subst this; rfl
 | succ q ih =>
   rcases Nat.lt_or_ge p (q + 1) with hlt | hge
   · rw [hE q (by omega), Env.get_puts (h q (by omega) (by omega)), ih (by omega) (by omega) (fun k h1 h2 => h k h1 (by omega))]
   · have : p = q + 1 := by omega
     subst this; rfl
theorem drawSound {ops : Array Oper} {N : Nat} {id : Nat} {Q : Exit → Act → World → Prop} {R : Env → Prop} (hm : P.follows .mixedOrders = true)
 (hQ : ∀ G' e' tm' w', R e' → e'.o.length = N → Inv w0 Pr0 G' e' tm' w' → Q .normal ⟨tm', []⟩ w')
 {G : Gh} {e : Env} {a : Act} {w : World} (hI : Inv w0 Pr0 G e a.tmps w) (hd : a.defers = []) (hN : e.o.length = N) (hdst : dstOk N ops.toList = true) (hreg : regOk ops.toList = true)
 (h : awpDraw P ops.toList ops.toList e [] R) : (Code.region id ops true).wp P Q a w := by
 obtain ⟨E, W, hE0, hstep, hobj, hR⟩ := draw_trace _ _ _ h
 simp only [List.nil_append] at hobj
 unfold regOk at hreg
 rw [Bool.and_eq_true] at hreg
 obtain ⟨hback, hpairs⟩ := hreg
 have hlen : ops.toList.length = ops.size := rfl
 have hEk : ∀ k, k < ops.toList.length → E (k + 1) = (E k).puts (W k) := fun k hk => (hstep k _ (List.getElem?_eq_getElem hk)).2.2
 have hEl : ∀ k, k ≤ ops.toList.length → (E k).s.length = e.s.length ∧ (E k).o.length = e.o.length := by
  intro k
  induction k with
  | zero => intro _; rw [hE0]; exact ⟨rfl, rfl⟩
  | succ k ih =>
    intro hk
    obtain ⟨i1, i2⟩ := ih (by omega)
    rw [hEk k (by omega)]
    simp [i1, i2]
 have ord : ∀ (i k : Nat) (o : Oper) (c : Comp), ops.toList[i]? = some o → k < ops.toList.length → k ≠ i → c ∈ (W k).map (·.1) →
  ((∃ t ∈ rdS ops.toList o, c = .s t) ∨ (∃ t ∈ rdO (E i) o, c = .o t) ∨ c ∈ (W i).map (·.1)) → (k < i → Bef ops.toList k i) ∧ (i < k → Bef ops.toList i k) := by
  intro i k o c hi hk hki hck htouch
  have hil : i < ops.toList.length := (List.getElem?_eq_some_iff.1 hi).1
  have hko := List.getElem?_eq_getElem hk
  obtain ⟨⟨c', x⟩, hcm, rfl⟩ := List.mem_map.1 hck
  have hwk := (hstep k _ hko).2.1 _ hcm
  simp only at hwk htouch hck
  have slot : ∀ t, c' = .s t → (ops.toList[k]).dst = some t ∧ (t ∈ rdS ops.toList o ∨ o.dst = some t) := by
   intro t ht
   subst ht
   refine ⟨?_, ?_⟩
   · rcases hwk with ⟨u, hu⟩ | ⟨d, hd1, hd2⟩
     · cases hu
     · cases hd2; exact hd1
   · rcases htouch with ⟨u, hu, he⟩ | ⟨u, hu, he⟩ | hcw
     · cases he; exact .inl hu
     · cases he
     · obtain ⟨⟨c2, y⟩, hcm2, he⟩ := List.mem_map.1 hcw
       simp only at he
       subst he
       rcases (hstep i o hi).2.1 _ hcm2 with ⟨u, hu⟩ | ⟨d, hd1, hd2⟩
       · cases hu
       · cases hd2; exact .inr hd1
  have memw : ∀ {m t}, Comp.o t ∈ (W m).map (·.1) → t ∈ wrO (W m) := fun {m t} hm => by
   obtain ⟨⟨c2, y⟩, hcm2, he⟩ := List.mem_map.1 hm
   simp only at he
   subst he
   exact List.mem_filterMap.2 ⟨_, hcm2, rfl⟩
  have tr_at : ∀ m, m < ops.toList.length → ((List.range ops.toList.length).map fun k => (rdO (E k) (ops.toList.getD k default), wrO (W k))).getD m ([], []) = (rdO (E m) (ops.toList.getD m default), wrO (W m)) := fun m hm => by
   rw [List.getD_eq_getElem?_getD, List.getElem?_map, List.getElem?_range hm]; rfl
  have obj : ∀ t, c' = .o t → t ∈ wrO (W k) ∧ (t ∈ rdO (E i) o ∨ t ∈ wrO (W i)) := by
   intro t ht
   subst ht
   refine ⟨memw hck, ?_⟩
   rcases htouch with ⟨u, hu, he⟩ | ⟨u, hu, he⟩ | hcw
   · cases he
   · cases he; exact .inl hu
   · exact .inr (memw hcw)
  have hio : ops.toList.getD i default = o := by rw [List.getD_eq_getElem?_getD, hi]; rfl
  refine ⟨fun hlt => ?_, fun hlt => ?_⟩
  · cases hc' : c' with
    | s t =>
      rcases pairsOk_spec hpairs hlt hil with h1 | h1
      · exact befs_spec h1
      · rw [hko, hi] at h1
        obtain ⟨q1, q2⟩ := slot t hc'
        simp only [slotFree, q1, Bool.and_eq_true, Bool.not_eq_true', bne_iff_ne] at h1
        rcases q2 with q2 | q2
        · have := h1.1.1
          rw [List.contains_eq_mem, decide_eq_false_iff_not] at this
          exact absurd q2 this
        · exact absurd q2 h1.1.2
    | o t =>
      rcases pairsOk_spec hobj hlt hil with h1 | h1
      · exact befs_spec h1
      · rw [tr_at k hk, tr_at i hil, hio] at h1
        obtain ⟨q1, q2⟩ := obj t hc'
        simp only [objFree, Bool.and_eq_true, List.all_eq_true] at h1
        have h2 := h1.1 t q1
        simp only [Bool.not_eq_true', List.contains_eq_mem, decide_eq_false_iff_not] at h2
        rcases q2 with q2 | q2
        · exact absurd q2 h2.1
        · exact absurd q2 h2.2
  · cases hc' : c' with
    | s t =>
      rcases pairsOk_spec hpairs hlt hk with h1 | h1
      · exact befs_spec h1
      · rw [hko, hi] at h1
        obtain ⟨q1, q2⟩ := slot t hc'
        simp only [slotFree, q1, Bool.and_eq_true, Bool.not_eq_true', List.contains_eq_mem, decide_eq_false_iff_not] at h1
        rcases q2 with q2 | q2
        · exact absurd q2 h1.2
        · have h3 := h1.1
          rw [q2] at h3
          simp at h3
    | o t =>
      rcases pairsOk_spec hobj hlt hk with h1 | h1
      · exact befs_spec h1
      · rw [tr_at k hk, tr_at i hil, hio] at h1
        obtain ⟨q1, q2⟩ := obj t hc'
        simp only [objFree, Bool.and_eq_true, List.all_eq_true] at h1
        rcases q2 with q2 | q2
        · have h2 := h1.2 t q1
          simp only [Bool.not_eq_true', List.contains_eq_mem, decide_eq_false_iff_not] at h2
          exact absurd q2 h2
        · have h2 := h1.1 t q2
          simp only [Bool.and_eq_true, Bool.not_eq_true', List.contains_eq_mem, decide_eq_false_iff_not] at h2
          exact absurd q1 h2.2
 let L (listed : Array Bool) (k : Nat) : Prop := listed.getD k false = true
 let InvD (listed : Array Bool) (e' : Env) : Prop := ∀ c, (∃ m, m < ops.toList.length ∧ L listed m ∧ c ∈ (W m).map (·.1) ∧ (∀ k, m < k → k < ops.toList.length → L listed k → c ∉ (W k).map (·.1)) ∧ e'.get c = (E (m + 1)).get c) ∨
  ((∀ k, k < ops.toList.length → L listed k → c ∉ (W k).map (·.1)) ∧ e'.get c = (E 0).get c)
 have key : ∀ (fuel : Nat) (listed : Array Bool) (G : Gh) (e' : Env) (a : Act) (w : World), listed.size = ops.size → ((List.range ops.size).countP fun j => !listed.getD j false) = fuel → ClosedL ops.toList (L listed) → InvD listed e' → e'.s.length = e.s.length → e'.o.length = e.o.length →
  Inv w0 Pr0 G e' a.tmps w → a.defers = [] → wpAny P .any ops Q fuel listed a w := by
  have alldone : ∀ (listed : Array Bool), listed.size = ops.size → Region.ready .any ops listed = [] → ∀ k, k < ops.size → L listed k := by
   intro listed hsz hr k
   induction k using Nat.strongRecOn with
   | _ k ih =>
     intro hk
     cases hlk : listed.getD k false with
     | true => exact hlk
     | false =>
       exfalso
       have hmem : k ∈ Region.ready .any ops listed := by
        rw [mem_ready]
        refine ⟨?_, ops[k], Array.getElem?_eq_getElem hk, fun ed he hb => ?_⟩
        · rw [Array.getD_eq_getD_getElem?, Array.getElem?_eq_getElem (by omega)] at hlk ⊢
          exact hlk
        · have hbk := List.all_eq_true.1 hback k (List.mem_range.2 hk)
          rw [Array.getElem?_toList, Array.getElem?_eq_getElem hk] at hbk
          simp only [List.all_eq_true] at hbk
          have := hbk ed (by simpa using he)
          simp only [hb, Bool.not_true, Bool.false_or, decide_eq_true_eq] at this
          exact ih ed.on this (by omega)
       rw [hr] at hmem
       cases hmem
  have final : ∀ (listed : Array Bool) (G : Gh) (e' : Env) (a : Act) (w : World), listed.size = ops.size → Region.ready .any ops listed = [] → InvD listed e' → e'.s.length = e.s.length → e'.o.length = e.o.length → Inv w0 Pr0 G e' a.tmps w → a.defers = [] → Q .normal a w := by
   intro listed G e' a w hsz hr hD hs ho hI' hd'
   have hall := alldone listed hsz hr
   have heq : e' = E ops.toList.length := by
    obtain ⟨l1, l2⟩ := hEl ops.toList.length (Nat.le_refl _)
    refine Env.ext_get (by rw [l1, hs]) (by rw [l2, ho]) (fun c => ?_)
    rcases hD c with ⟨m, hm1, hm2, hm3, hm4, hm5⟩ | ⟨hn, h0⟩
    · rw [hm5, E_const (n := ops.toList.length) hEk (p := m + 1) (by omega) (Nat.le_refl _) (fun k h1 h2 => hm4 k (by omega) h2 (hall k h2))]
    · rw [h0, E_const (n := ops.toList.length) hEk (p := 0) (Nat.zero_le _) (Nat.le_refl _) (fun k h1 h2 => hn k h2 (hall k h2))]
   obtain ⟨tm, ds⟩ := a
   simp only at hd'; subst hd'
   exact hQ G e' tm w (by rw [heq]; exact hR) (by rw [ho, hN]) hI'
  intro fuel
  induction fuel with
  | zero =>
    intro listed G e' a w hsz hcnt hcl hD hs ho hI' hd'
    have hr : Region.ready .any ops listed = [] := by
     rw [List.countP_eq_zero] at hcnt
     cases hrr : Region.ready .any ops listed with
     | nil => rfl
     | cons i is =>
       have hi : i ∈ Region.ready .any ops listed := by rw [hrr]; simp
       obtain ⟨h0, o, ho', _⟩ := mem_ready.1 hi
       have hlt : i < ops.size := (Array.getElem?_eq_some_iff.1 ho').1
       have := hcnt i (List.mem_range.2 hlt)
       rw [Array.getD_eq_getD_getElem?, Array.getElem?_eq_getElem (by omega)] at h0 this
       simp only [Option.getD_some] at h0 this
       rw [h0] at this
       simp at this
    exact ⟨hr, final listed G e' a w hsz hr hD hs ho hI' hd'⟩
  | succ fuel ih =>
    intro listed G e' a w hsz hcnt hcl hD hs ho hI' hd'
    refine ⟨fun hr => final listed G e' a w hsz hr hD hs ho hI' hd', fun i hi => ?_⟩
    obtain ⟨hun, o, hoi, hafter⟩ := mem_ready.1 hi
    have hil : i < ops.size := (Array.getElem?_eq_some_iff.1 hoi).1
    have hoi' : ops.toList[i]? = some o := by rw [Array.getElem?_toList]; exact hoi
    have hunl : ¬ L listed i := by
     rw [Array.getD_eq_getD_getElem?, Array.getElem?_eq_getElem (by omega)] at hun
     simp only [L, Array.getD_eq_getD_getElem?, Array.getElem?_eq_getElem (show i < listed.size by omega), Option.getD_some] at hun ⊢
     rw [hun]; simp
    have hrdy : ∀ o', ops.toList[i]? = some o' → ∀ ed ∈ o'.after.toList, Region.binds .any ed = true → L listed ed.on := fun o' ho' ed he hb => by
     rw [hoi'] at ho'; cases ho'
     exact hafter ed (by simpa using he) hb
    have wri : ∀ (c : Comp), ((∃ t ∈ rdS ops.toList o, c = .s t) ∨ (∃ t ∈ rdO (E i) o, c = .o t) ∨ c ∈ (W i).map (·.1)) → ∀ k, k < ops.toList.length → k ≠ i → c ∈ (W k).map (·.1) → (L listed k ↔ k < i) := by
     intro c ht k hk hki hck
     obtain ⟨o1, o2⟩ := ord i k o c hoi' hk hki hck ht
     constructor
     · intro hlk
       rcases Nat.lt_or_gt_of_ne hki with hlt | hgt
       · exact hlt
       · exact absurd ((o2 hgt).listed hcl hlk) hunl
     · intro hlt
       exact (o1 hlt).ready hcl hrdy
    have agree : ∀ (c : Comp), ((∃ t ∈ rdS ops.toList o, c = .s t) ∨ (∃ t ∈ rdO (E i) o, c = .o t) ∨ c ∈ (W i).map (·.1)) → (E i).get c = e'.get c := by
     intro c ht
     have hw := wri c ht
     rcases hD c with ⟨m, hm1, hm2, hm3, hm4, hm5⟩ | ⟨hn, h0⟩
     · have hmi : m ≠ i := fun q => hunl (q ▸ hm2)
       have hlt := (hw m hm1 hmi hm3).1 hm2
       rw [hm5]
       refine E_const (n := ops.toList.length) hEk (by omega) (by rw [hlen]; omega) (fun k h1 h2 hc => ?_)
       exact hm4 k (by omega) (by rw [hlen]; omega) ((hw k (by rw [hlen]; omega) (by omega) hc).2 h2) hc
     · rw [h0]
       refine E_const (n := ops.toList.length) hEk (Nat.zero_le _) (by rw [hlen]; omega) (fun k h1 h2 hc => ?_)
       exact hn k (by rw [hlen]; omega) ((hw k (by rw [hlen]; omega) (by omega) hc).2 h2) hc
    obtain ⟨hop, honly, _⟩ := hstep i o hoi'
    have hop' : awpOp P ops.toList e' o (· = W i) := awpOp_loc (fun t ht => agree (.s t) (.inl ⟨t, ht, rfl⟩)) (fun t ht => agree (.o t) (.inr (.inl ⟨t, ht, rfl⟩))) hop
    have hdl : ∀ d, o.dst = some d → d < e'.o.length := fun d hdd => by
     have := List.all_eq_true.1 hdst o (List.mem_of_getElem? hoi')
     rw [hdd] at this
     rw [ho, hN]
     exact of_decide_eq_true this
    obtain ⟨ws, hws, _, hone⟩ := oneSound hI' hd' (ops := ops) hdl hop'
    subst hws
    have hnext : ∀ G' tm' w', Inv w0 Pr0 G' (e'.puts (W i)) tm' w' → wpAny P .any ops Q fuel (listed.setIfInBounds i true) ⟨tm', []⟩ w' := fun G' tm' w' hI2 => by
     have hLset : ∀ k, L (listed.setIfInBounds i true) k ↔ (k = i ∨ L listed k) := fun k => by
      simp only [L, Array.getD_eq_getD_getElem?]
      by_cases hk : i = k
      · subst hk
        rw [Array.getElem?_setIfInBounds_self_of_lt (by omega)]
        simp
      · rw [Array.getElem?_setIfInBounds_ne hk]
        simp [Ne.symm hk]
     refine ih (listed.setIfInBounds i true) G' (e'.puts (W i)) ⟨tm', []⟩ w' (by simp [hsz]) ?_ ?_ ?_ (by simp [hs]) (by simp [ho]) hI2 rfl
     ·
      have : ∀ (n : Nat), i < n → ((List.range n).countP fun j => !listed.getD j false) = ((List.range n).countP fun j => !(listed.setIfInBounds i true).getD j false) + 1 := by
       intro n
       induction n with
       | zero => intro h; omega
       | succ n ihn =>
         intro hn
         rw [List.range_succ, List.countP_append, List.countP_append]
         by_cases hin : i = n
         · subst hin
           have e1 : ((List.range i).countP fun j => !listed.getD j false) = ((List.range i).countP fun j => !(listed.setIfInBounds i true).getD j false) := by
            apply List.countP_congr
            intro j hj
            have hji : i ≠ j := by have := List.mem_range.1 hj; omega
            rw [getD_set_ne false hji]
           have e2 : listed.getD i false = false := by
            cases hq : listed.getD i false with
            | true => exact absurd hq hunl
            | false => rfl
           have e3 : (listed.setIfInBounds i true).getD i false = true := (hLset i).2 (.inl rfl)
           rw [e1]
           simp only [List.countP_cons, List.countP_nil, e2, e3]
           simp
         · have := ihn (by omega)
           rw [this]
           simp only [List.countP_cons, List.countP_nil, getD_set_ne false hin]
           omega
      rw [this ops.size hil] at hcnt
      exact Nat.succ.inj hcnt
     · intro j oj hj hlj ed he hb
       rw [hLset] at hlj ⊢
       rcases hlj with rfl | hlj
       · exact .inr (hrdy oj hj ed he hb)
       · exact .inr (hcl j oj hj hlj ed he hb)
     · intro c
       by_cases hc : c ∈ (W i).map (·.1)
       · refine .inl ⟨i, hil, (hLset i).2 (.inl rfl), hc, fun k h1 h2 h3 h4 => ?_, ?_⟩
         · rw [hLset] at h3
           rcases h3 with h3 | h3
           · omega
           · have := (wri c (.inr (.inr hc)) k h2 (by omega) h4).1 h3
             omega
         · rw [hEk i hil]
           obtain ⟨l1, l2⟩ := hEl i (by rw [hlen]; omega)
           exact Env.puts_congr (by rw [hs, l1]) (by rw [ho, l2]) (.inl hc)
       · rw [Env.get_puts hc]
         rcases hD c with ⟨m, hm1, hm2, hm3, hm4, hm5⟩ | ⟨hn, h0⟩
         · refine .inl ⟨m, hm1, (hLset m).2 (.inr hm2), hm3, fun k h1 h2 h3 => ?_, hm5⟩
           rw [hLset] at h3
           rcases h3 with rfl | h3
           · exact hc
           · exact hm4 k h1 h2 h3
         · refine .inr ⟨fun k h1 h2 => ?_, h0⟩
           rw [hLset] at h2
           rcases h2 with rfl | h2
           · exact hc
           · exact hn k h1 h2
    have hfin := hone (wpAny P .any ops Q fuel (listed.setIfInBounds i true)) Q hnext
    unfold wpOp
    rw [hoi]
    simp only
    split
    · rename_i hw; rw [if_pos hw] at hfin; exact .inl hfin
    · rename_i hw; rw [if_neg hw] at hfin; exact hfin
 refine wp_region_any hm (key ops.size _ G e a _ (by simp) ?_ (fun j o hj hl => ?_) (fun c => .inr ⟨fun k _ hl => ?_, by rw [hE0]⟩) rfl rfl (hI.world rfl rfl rfl rfl (Nat.le_succ _)) hd)
 · have : ∀ j, (Array.replicate ops.size false).getD j false = false := fun j => by
    rw [Array.getD_eq_getD_getElem?, Array.getElem?_replicate]; split <;> rfl
   simp only [this, Bool.not_false]
   simp
 · simp only [L, Array.getD_eq_getD_getElem?, Array.getElem?_replicate] at hl
   split at hl <;> cases hl
 · simp only [L, Array.getD_eq_getD_getElem?, Array.getElem?_replicate] at hl
   split at hl <;> cases hl
end
end Go.Proofs.YtbhgehhmjpipiaaGreatDoor.Ab
