/- Chapter 12: the plain law of closures: the derivations of the program and the closure of the reference hold the same. -/
import Derived.Laws.BitsLemmas
set_option linter.unusedSimpArgs false
set_option linter.unusedVariables false
namespace Go.Proofs.YtbhgehhmjpipiaaGreatDoor.C12
structure Cap where
 job : Int
 object : Int
 kind : Int
 auth : Int
deriving DecidableEq, Inhabited
structure Der where
 cap : Cap
 kind : Int
 source : Int
 writer : Int
 reader : Int
deriving DecidableEq, Inhabited
structure CC where
 J : Nat
 O : Nat
 au : Nat → Nat → Int
 sp : Int → Bool
 inc : Int → Int → Bool
def Cap.lt (a b : Cap) : Bool := if a.job ≠ b.job then decide (a.job < b.job) else if a.object ≠ b.object then decide (a.object < b.object) else if a.kind ≠ b.kind then decide (a.kind < b.kind) else decide (a.auth < b.auth)
theorem Cap.lt_iff {a b : Cap} : a.lt b = true ↔ a.job < b.job ∨ (a.job = b.job ∧ (a.object < b.object ∨ (a.object = b.object ∧ (a.kind < b.kind ∨ (a.kind = b.kind ∧ a.auth < b.auth))))) := by
 unfold Cap.lt
 split
 · simp; omega
 · split
   · simp; omega
   · split
     · simp; omega
     · simp; omega
theorem Cap.lt_irrefl (a : Cap) : a.lt a = false := by
 cases h : a.lt a with
 | false => rfl
 | true => rw [Cap.lt_iff] at h; omega
theorem Cap.lt_trans {a b c : Cap} (h1 : a.lt b = true) (h2 : b.lt c = true) : a.lt c = true := by
 rw [Cap.lt_iff] at h1 h2 ⊢; omega
theorem Cap.ext_iff' {a b : Cap} : a = b ↔ a.job = b.job ∧ a.object = b.object ∧ a.kind = b.kind ∧ a.auth = b.auth := by
 cases a; cases b; simp
theorem Cap.lt_total {a b : Cap} (h : a.lt b = false) : b.lt a = true ∨ a = b := by
 by_cases q : b.lt a = true
 · exact .inl q
 · right
   have h1 : ¬ a.lt b = true := by rw [h]; decide
   rw [Cap.lt_iff] at h1 q
   rw [Cap.ext_iff']
   omega
def Sorted (l : List Cap) : Prop := l.Pairwise fun a b => a.lt b = true
theorem Sorted.unique : ∀ {l m : List Cap}, Sorted l → Sorted m → (∀ x, x ∈ l ↔ x ∈ m) → l = m
 | [], [], _, _, _ => rfl
 | [], b :: m, _, _, h => absurd ((h b).2 (List.mem_cons_self ..)) (by simp)
 | a :: l, [], _, _, h => absurd ((h a).1 (List.mem_cons_self ..)) (by simp)
 | a :: l, b :: m, hl, hm, h => by
   obtain ⟨ha, hl'⟩ := List.pairwise_cons.1 hl
   obtain ⟨hb, hm'⟩ := List.pairwise_cons.1 hm
   have hab : a = b := by
    rcases List.mem_cons.1 ((h a).1 (List.mem_cons_self ..)) with q | q
    · exact q
    · rcases List.mem_cons.1 ((h b).2 (List.mem_cons_self ..)) with r | r
      · exact r.symm
      · have := Cap.lt_trans (ha b r) (hb a q)
        rw [Cap.lt_irrefl] at this; cases this
   subst hab
   rw [Sorted.unique hl' hm' fun x => ⟨fun hx => ?_, fun hx => ?_⟩]
   · rcases List.mem_cons.1 ((h x).1 (List.mem_cons_of_mem _ hx)) with q | q
     · subst q; have := ha x hx; rw [Cap.lt_irrefl] at this; cases this
     · exact q
   · rcases List.mem_cons.1 ((h x).2 (List.mem_cons_of_mem _ hx)) with q | q
     · subst q; have := hb x hx; rw [Cap.lt_irrefl] at this; cases this
     · exact q
def compactAux : Cap → List Cap → List Cap
 | _, [] => []
 | a, b :: l => if b = a then compactAux a l else b :: compactAux b l
def compact : List Cap → List Cap
 | [] => []
 | a :: l => a :: compactAux a l
theorem compactAux_mem : ∀ (l : List Cap) (a x : Cap), x ∈ a :: compactAux a l ↔ x ∈ a :: l
 | [], a, x => by simp [compactAux]
 | b :: l, a, x => by
   unfold compactAux
   split
   · rename_i q; subst q
     rw [compactAux_mem l b x]; simp
   · have := compactAux_mem l b x
     rw [List.mem_cons, this]; simp
theorem compact_mem (l : List Cap) (x : Cap) : x ∈ compact l ↔ x ∈ l := by
 cases l with
 | nil => simp [compact]
 | cons a l => exact compactAux_mem l a x
theorem compactAux_sorted : ∀ (l : List Cap) (a : Cap), (a :: l).Pairwise (fun a b => b.lt a = false) → Sorted (a :: compactAux a l)
 | [], a, _ => by simp [compactAux, Sorted]
 | b :: l, a, h => by
   obtain ⟨h1, h2⟩ := List.pairwise_cons.1 h
   unfold compactAux
   split
   · rename_i q; subst q
     exact compactAux_sorted l b h2
   · rename_i q
     have ih := compactAux_sorted l b h2
     have hab : a.lt b = true := by
      rcases Cap.lt_total (h1 b (List.mem_cons_self ..)) with r | r
      · exact r
      · exact absurd r q
     refine List.pairwise_cons.2 ⟨fun x hx => ?_, ih⟩
     rcases List.mem_cons.1 hx with r | r
     · subst r; exact hab
     · exact Cap.lt_trans hab ((List.pairwise_cons.1 ih).1 x r)
theorem compact_sorted {l : List Cap} (h : l.Pairwise (fun a b => b.lt a = false)) : Sorted (compact l) := by
 cases l with
 | nil => simp [compact, Sorted]
 | cons a l => exact compactAux_sorted l a h
def putGo (x : Cap) : List Cap → List Cap
 | [] => [x]
 | a :: l => if x.lt a then x :: a :: l else a :: putGo x l
def put (l : List Cap) (x : Cap) : List Cap := if x ∈ l then l else putGo x l
theorem putGo_mem (x y : Cap) : ∀ l : List Cap, y ∈ putGo x l ↔ y = x ∨ y ∈ l
 | [] => by simp [putGo]
 | a :: l => by
   unfold putGo
   split
   · simp
   · rw [List.mem_cons, putGo_mem x y l, List.mem_cons]
     constructor
     · rintro (h | h | h)
       · exact .inr (.inl h)
       · exact .inl h
       · exact .inr (.inr h)
     · rintro (h | h | h)
       · exact .inr (.inl h)
       · exact .inl h
       · exact .inr (.inr h)
theorem put_mem (x y : Cap) (l : List Cap) : y ∈ put l x ↔ y = x ∨ y ∈ l := by
 unfold put
 split
 · rename_i h
   constructor
   · exact .inr
   · rintro (rfl | q)
     · exact h
     · exact q
 · exact putGo_mem x y l
theorem putGo_sorted {x : Cap} : ∀ {l : List Cap}, Sorted l → x ∉ l → Sorted (putGo x l)
 | [], _, _ => by simp [putGo, Sorted]
 | a :: l, h, hx => by
   obtain ⟨h1, h2⟩ := List.pairwise_cons.1 h
   unfold putGo
   split
   · rename_i q
     refine List.pairwise_cons.2 ⟨fun y hy => ?_, h⟩
     rcases List.mem_cons.1 hy with r | r
     · subst r; exact q
     · exact Cap.lt_trans q (h1 y r)
   · rename_i q
     refine List.pairwise_cons.2 ⟨fun y hy => ?_, putGo_sorted h2 fun r => hx (List.mem_cons_of_mem _ r)⟩
     rcases (putGo_mem x y l).1 hy with r | r
     · subst r
       rcases Cap.lt_total (show y.lt a = false by simpa using q) with s | s
       · exact s
       · subst s; exact absurd (List.mem_cons_self ..) hx
     · exact h1 y r
theorem put_sorted {x : Cap} {l : List Cap} (h : Sorted l) : Sorted (put l x) := by
 unfold put
 split
 · exact h
 · rename_i q; exact putGo_sorted h q
theorem putGo_len (x : Cap) : ∀ l : List Cap, (putGo x l).length = l.length + 1
 | [] => rfl
 | a :: l => by
   unfold putGo
   split
   · rfl
   · simp [putGo_len x l]
theorem put_len (x : Cap) (l : List Cap) : l.length ≤ (put l x).length := by
 unfold put
 split
 · exact Nat.le_refl _
 · rw [putGo_len]; omega
variable (C : CC)
def CC.chan (x : Cap) (n : Int) : Bool := decide (x.kind = 1) && C.sp x.object && C.inc x.auth n
inductive Drv : Cap → Prop
 | seed (j k : Nat) (hj : j < C.J) (hk : k < C.O) (h : C.au j k ≠ 0) : Drv ⟨(j : Int), (k : Int), 1, C.au j k⟩
 | addr (x : Cap) (hx : Drv x) (h : C.chan x 128 = true) : Drv ⟨x.job, x.object, 0, 0⟩
 | pass (x w r : Cap) (j : Nat) (hj : j < C.J) (hx : Drv x) (hw : Drv w) (hr : Drv r) (h1 : w.job = x.job) (h2 : r.job = (j : Int)) (h3 : (j : Int) ≠ x.job) (h4 : w.object = r.object) (h5 : C.chan w 128 = true) (h6 : C.chan r 32 = true) : Drv ⟨(j : Int), x.object, x.kind, x.auth⟩
structure Closed (l : List Cap) : Prop where
 seed : ∀ (j k : Nat), j < C.J → k < C.O → C.au j k ≠ 0 → ⟨(j : Int), (k : Int), 1, C.au j k⟩ ∈ l
 addr : ∀ x ∈ l, C.chan x 128 = true → ⟨x.job, x.object, 0, 0⟩ ∈ l
 pass : ∀ x ∈ l, ∀ w ∈ l, ∀ r ∈ l, ∀ j : Nat, j < C.J → w.job = x.job → r.job = (j : Int) → (j : Int) ≠ x.job → w.object = r.object → C.chan w 128 = true → C.chan r 32 = true → ⟨(j : Int), x.object, x.kind, x.auth⟩ ∈ l
theorem Closed.all {l : List Cap} (h : Closed C l) {x : Cap} (hx : Drv C x) : x ∈ l := by
 induction hx with
 | seed j k hj hk h0 => exact h.seed j k hj hk h0
 | addr x hx h1 ih => exact h.addr x ih h1
 | pass x w r j hj hx hw hr h1 h2 h3 h4 h5 h6 i1 i2 i3 => exact h.pass x i1 w i2 r i3 j hj h1 h2 h3 h4 h5 h6
theorem closed_same {l m : List Cap} (h1 : Closed C l) (h2 : ∀ x ∈ l, Drv C x) (h3 : Closed C m) (h4 : ∀ x ∈ m, Drv C x) (x : Cap) : x ∈ l ↔ x ∈ m :=
 ⟨fun h => h3.all C (h2 x h), fun h => h1.all C (h4 x h)⟩
end Go.Proofs.YtbhgehhmjpipiaaGreatDoor.C12
namespace Go.Proofs.YtbhgehhmjpipiaaGreatDoor.C12
variable (C : CC)
def has (l : List Der) (x : Cap) : Bool := l.any fun y => decide (y.cap = x)
def addD (l : List Der) (x : Der) : List Der := if has l x.cap then l else l ++ [x]
def gateGo (C : CC) (j s n : Int) : List Der → Nat → Int
 | [], _ => -1
 | y :: l, i => if y.cap.job = j ∧ y.cap.object = s ∧ y.cap.kind = 1 ∧ C.inc y.cap.auth n = true then (i : Int) else gateGo C j s n l (i + 1)
def gate (C : CC) (l : List Der) (j s n : Int) : Int := gateGo C j s n l 0
def passGo (C : CC) (l : List Der) (x : Cap) (i : Nat) (j : Nat) : List Nat → List Der
 | [] => l
 | s :: ss => if C.sp (s : Int) = true ∧ 0 ≤ gate C l x.job (s : Int) 128 ∧ 0 ≤ gate C l (j : Int) (s : Int) 32
    then addD l ⟨⟨(j : Int), x.object, x.kind, x.auth⟩, 2, (i : Int), gate C l x.job (s : Int) 128, gate C l (j : Int) (s : Int) 32⟩ else passGo C l x i j ss
def pass (C : CC) (l : List Der) (i j : Nat) : List Der := passGo C l (l.getD i default).cap i j (List.range C.O)
def addrD (C : CC) (l : List Der) (i : Nat) : List Der := if C.chan (l.getD i default).cap 128 = true then addD l ⟨⟨(l.getD i default).cap.job, (l.getD i default).cap.object, 0, 0⟩, 1, (i : Int), 0, 0⟩ else l
def jobsD (C : CC) (l : List Der) (i : Nat) : List Nat → List Der
 | [] => l
 | j :: js => jobsD C (if (j : Int) = (l.getD i default).cap.job then l else pass C l i j) i js
def stepD (C : CC) (l : List Der) (i : Nat) : List Der := jobsD C (addrD C l i) i (List.range C.J)
def roundGo (C : CC) (l : List Der) : List Nat → List Der
 | [] => l
 | i :: is => roundGo C (stepD C l i) is
def round (C : CC) (l : List Der) : List Der := roundGo C l (List.range l.length)
def seedJ (C : CC) (l : List Der) (j : Nat) : List Nat → List Der
 | [] => l
 | k :: ks => seedJ C (if C.au j k = 0 then l else addD l ⟨⟨(j : Int), (k : Int), 1, C.au j k⟩, 0, 0, 0, 0⟩) j ks
def seedsGo (C : CC) (l : List Der) : List Nat → List Der
 | [] => l
 | j :: js => seedsGo C (seedJ C l j (List.range C.O)) js
def seeds (C : CC) : List Der := seedsGo C [] (List.range C.J)
theorem has_iff {l : List Der} {x : Cap} : has l x = true ↔ x ∈ l.map Der.cap := by
 unfold has
 rw [List.any_eq_true]
 simp [List.mem_map]
theorem addD_pre (l : List Der) (x : Der) : l <+: addD l x := by
 unfold addD; split
 · exact List.prefix_refl _
 · exact List.prefix_append ..
theorem passGo_pre (x : Cap) (i j : Nat) : ∀ (ss : List Nat) (l : List Der), l <+: passGo C l x i j ss
 | [], l => List.prefix_refl _
 | s :: ss, l => by
   unfold passGo; split
   · exact addD_pre ..
   · exact passGo_pre x i j ss l
theorem pass_pre (l : List Der) (i j : Nat) : l <+: pass C l i j := passGo_pre ..
theorem addrD_pre (l : List Der) (i : Nat) : l <+: addrD C l i := by
 unfold addrD; split
 · exact addD_pre ..
 · exact List.prefix_refl _
theorem jobsD_pre (i : Nat) : ∀ (js : List Nat) (l : List Der), l <+: jobsD C l i js
 | [], l => List.prefix_refl _
 | j :: js, l => by
   unfold jobsD
   refine List.IsPrefix.trans ?_ (jobsD_pre i js _)
   split
   · exact List.prefix_refl _
   · exact pass_pre ..
theorem stepD_pre (l : List Der) (i : Nat) : l <+: stepD C l i := (addrD_pre C l i).trans (jobsD_pre C i _ _)
theorem roundGo_pre : ∀ (is : List Nat) (l : List Der), l <+: roundGo C l is
 | [], l => List.prefix_refl _
 | i :: is, l => (stepD_pre C l i).trans (roundGo_pre is _)
theorem round_pre (l : List Der) : l <+: round C l := roundGo_pre C _ l
theorem pre_getD {l m : List Der} (h : l <+: m) {i : Nat} (hi : i < l.length) : m.getD i default = l.getD i default := by
 obtain ⟨t, rfl⟩ := h
 simp [List.getD_eq_getElem?_getD, List.getElem?_append_left hi]
theorem pre_mem {l m : List Der} (h : l <+: m) {x : Cap} (hx : x ∈ l.map Der.cap) : x ∈ m.map Der.cap := by
 obtain ⟨t, rfl⟩ := h; simp only [List.map_append, List.mem_append]; exact .inl hx
theorem pre_len {l m : List Der} (h : l <+: m) : l.length ≤ m.length := h.length_le
theorem pre_eq {l m : List Der} (h : l <+: m) (hl : m.length = l.length) : m = l := (h.eq_of_length hl.symm).symm
theorem get_some {l : List Der} {i : Nat} (h : i < l.length) : l[i]? = some (l.getD i default) := by
 rw [List.getD_eq_getElem?_getD, List.getElem?_eq_getElem h]; rfl
theorem addD_mem (l : List Der) (x : Der) : x.cap ∈ (addD l x).map Der.cap := by
 unfold addD; split
 · rename_i h; exact has_iff.1 h
 · simp
theorem gateGo_some {j s n : Int} : ∀ {l : List Der} {i : Nat}, 0 ≤ gateGo C j s n l i → ∃ k, k < l.length ∧ gateGo C j s n l i = ((i + k : Nat) : Int) ∧ (l.getD k default).cap.job = j ∧ (l.getD k default).cap.object = s ∧ (l.getD k default).cap.kind = 1 ∧ C.inc (l.getD k default).cap.auth n = true
 | [], i, h => by unfold gateGo at h; omega
 | y :: l, i, h => by
   unfold gateGo at h ⊢
   split at h
   · rename_i q
     rw [if_pos q]
     exact ⟨0, by simp, by simp, q.1, q.2.1, q.2.2.1, q.2.2.2⟩
   · rename_i q
     rw [if_neg q]
     obtain ⟨k, h1, h2, h3⟩ := gateGo_some h
     exact ⟨k + 1, by simpa using h1, by rw [h2]; congr 1; omega, by simpa using h3⟩
theorem gateGo_none {j s n : Int} : ∀ {l : List Der} {i : Nat}, ¬ 0 ≤ gateGo C j s n l i → ∀ y ∈ l, ¬ (y.cap.job = j ∧ y.cap.object = s ∧ y.cap.kind = 1 ∧ C.inc y.cap.auth n = true)
 | [], i, _, y, hy => by cases hy
 | z :: l, i, h, y, hy => by
   unfold gateGo at h
   split at h
   · omega
   · rename_i q
     rcases List.mem_cons.1 hy with rfl | hy
     · exact q
     · exact gateGo_none h y hy
theorem gate_some {j s n : Int} {l : List Der} (h : 0 ≤ gate C l j s n) : (gate C l j s n).toNat < l.length ∧ (l.getD (gate C l j s n).toNat default).cap.job = j ∧ (l.getD (gate C l j s n).toNat default).cap.object = s ∧ (l.getD (gate C l j s n).toNat default).cap.kind = 1 ∧ C.inc (l.getD (gate C l j s n).toNat default).cap.auth n = true := by
 obtain ⟨k, h1, h2, h3⟩ := gateGo_some C h
 have : (gate C l j s n).toNat = k := by unfold gate; rw [h2]; simp
 rw [this]; exact ⟨h1, h3⟩
structure Proved (l : List Der) (x : Der) : Prop where
 job : 0 ≤ x.cap.job ∧ x.cap.job < (C.J : Int)
 object : 0 ≤ x.cap.object ∧ x.cap.object < (C.O : Int)
 how : (x.kind = 0 ∧ x.source = 0 ∧ x.writer = 0 ∧ x.reader = 0 ∧ x.cap.kind = 1 ∧ x.cap.auth ≠ 0 ∧ x.cap.auth = C.au x.cap.job.toNat x.cap.object.toNat) ∨
  (x.kind = 1 ∧ x.writer = 0 ∧ x.reader = 0 ∧ x.cap.kind = 0 ∧ x.cap.auth = 0 ∧ ∃ y, 0 ≤ x.source ∧ l[x.source.toNat]? = some y ∧ y.cap.job = x.cap.job ∧ y.cap.object = x.cap.object ∧ C.chan y.cap 128 = true) ∨
  (x.kind = 2 ∧ ∃ y w r, 0 ≤ x.source ∧ 0 ≤ x.writer ∧ 0 ≤ x.reader ∧ l[x.source.toNat]? = some y ∧ l[x.writer.toNat]? = some w ∧ l[x.reader.toNat]? = some r ∧
    y.cap.job ≠ x.cap.job ∧ y.cap.object = x.cap.object ∧ y.cap.kind = x.cap.kind ∧ y.cap.auth = x.cap.auth ∧ w.cap.job = y.cap.job ∧ r.cap.job = x.cap.job ∧ w.cap.object = r.cap.object ∧ C.chan w.cap 128 = true ∧ C.chan r.cap 32 = true)
inductive DOk : List Der → Prop
 | nil : DOk []
 | snoc {l : List Der} {x : Der} (h : DOk l) (hx : Proved C l x) (hn : x.cap ∉ l.map Der.cap) : DOk (l ++ [x])
theorem DOk.addD {l : List Der} {x : Der} (h : DOk C l) (hx : Proved C l x) : DOk C (addD l x) := by
 unfold C12.addD; split
 · exact h
 · rename_i q; exact .snoc h hx fun r => q (has_iff.2 r)
theorem DOk.nodup {l : List Der} (h : DOk C l) : (l.map Der.cap).Nodup := by
 induction h with
 | nil => simp
 | snoc h hx hn ih =>
   rw [List.map_append, List.nodup_append]
   refine ⟨ih, by simp, fun a ha b hb => ?_⟩
   simp only [List.map_cons, List.map_nil, List.mem_singleton] at hb
   subst hb
   exact fun e => hn (e ▸ ha)
theorem mem_get {l : List Der} {i : Nat} {y : Der} (h : l[i]? = some y) : y ∈ l := List.mem_of_getElem? h
theorem DOk.drv {l : List Der} (h : DOk C l) : ∀ x ∈ l, Drv C x.cap ∧ (0 ≤ x.cap.job ∧ x.cap.job < (C.J : Int)) ∧ (0 ≤ x.cap.object ∧ x.cap.object < (C.O : Int)) := by
 induction h with
 | nil => intro x hx; cases hx
 | @snoc l x h hx hn ih =>
   intro y hy
   rcases List.mem_append.1 hy with hy | hy
   · exact ih y hy
   · rw [List.mem_singleton] at hy; subst hy
     refine ⟨?_, hx.job, hx.object⟩
     rcases hx.how with ⟨_, _, _, _, h1, h2, h3⟩ | ⟨_, _, _, h1, h2, z, _, h3, h4, h5, h6⟩ | ⟨_, z, w, r, _, _, _, h1, h2, h3, h4, h5, h6, h7, h8, h9, h10, h11, h12⟩
     · have := Drv.seed (C := C) y.cap.job.toNat y.cap.object.toNat (by have := hx.job; omega) (by have := hx.object; omega) (by rw [← h3]; exact h2)
       rw [← h3] at this
       have e : y.cap = ⟨((y.cap.job.toNat : Nat) : Int), ((y.cap.object.toNat : Nat) : Int), 1, y.cap.auth⟩ := by
        rw [Cap.ext_iff']; have q1 := hx.job; have q2 := hx.object; exact ⟨by simp only; omega, by simp only; omega, h1, rfl⟩
       rw [e]; exact this
     · have := Drv.addr z.cap (ih z (mem_get h3)).1 h6
       have e : y.cap = ⟨z.cap.job, z.cap.object, 0, 0⟩ := by rw [Cap.ext_iff']; exact ⟨h4.symm, h5.symm, h1, h2⟩
       rw [e]; exact this
     · have := Drv.pass z.cap w.cap r.cap y.cap.job.toNat (by have := hx.job; omega) (ih z (mem_get h1)).1 (ih w (mem_get h2)).1 (ih r (mem_get h3)).1 h8 (by have := hx.job; omega) (by have := hx.job; omega) h10 h11 h12
       have e : y.cap = ⟨((y.cap.job.toNat : Nat) : Int), z.cap.object, z.cap.kind, z.cap.auth⟩ := by
        rw [Cap.ext_iff']; have := hx.job; simp only; exact ⟨by omega, h5.symm, h6.symm, h7.symm⟩
       rw [e]; exact this
theorem addrD_ok {l : List Der} (h : DOk C l) {i : Nat} (hi : i < l.length) : DOk C (addrD C l i) := by
 unfold addrD; split
 · rename_i q
   have hm : l[i]? = some (l.getD i default) := get_some hi
   obtain ⟨_, h2, h3⟩ := h.drv C _ (mem_get hm)
   exact h.addD C ⟨h2, h3, .inr (.inl ⟨rfl, rfl, rfl, rfl, rfl, l.getD i default, by simp, by simpa using hm, rfl, rfl, q⟩)⟩
 · exact h
theorem passGo_ok {l : List Der} (h : DOk C l) {i j : Nat} (hi : i < l.length) (hj : j < C.J) (hne : (j : Int) ≠ (l.getD i default).cap.job) : ∀ ss : List Nat, DOk C (passGo C l (l.getD i default).cap i j ss)
 | [] => h
 | s :: ss => by
   unfold passGo; split
   · rename_i q
     obtain ⟨q1, q2, q3⟩ := q
     have hm : l[i]? = some (l.getD i default) := get_some hi
     obtain ⟨w1, w2, w3, w4, w5⟩ := gate_some C q2
     obtain ⟨r1, r2, r3, r4, r5⟩ := gate_some C q3
     have hw : l[(gate C l (l.getD i default).cap.job (s : Int) 128).toNat]? = some (l.getD (gate C l (l.getD i default).cap.job (s : Int) 128).toNat default) := get_some w1
     have hr : l[(gate C l (j : Int) (s : Int) 32).toNat]? = some (l.getD (gate C l (j : Int) (s : Int) 32).toNat default) := get_some r1
     obtain ⟨_, _, h3⟩ := h.drv C _ (mem_get hm)
     refine h.addD C ⟨⟨by simp, by simp; omega⟩, h3, .inr (.inr ⟨rfl, l.getD i default, _, _, by simp, q2, q3, by simpa using hm, hw, hr, Ne.symm hne, rfl, rfl, rfl, w2, r2, w3.trans r3.symm, ?_, ?_⟩)⟩
     · unfold CC.chan; rw [w4, w3, q1, w5]; rfl
     · unfold CC.chan; rw [r4, r3, q1, r5]; rfl
   · exact passGo_ok h hi hj hne ss
theorem pass_ok {l : List Der} (h : DOk C l) {i j : Nat} (hi : i < l.length) (hj : j < C.J) (hne : (j : Int) ≠ (l.getD i default).cap.job) : DOk C (pass C l i j) := passGo_ok C h hi hj hne _
theorem jobsD_ok {i : Nat} : ∀ {js : List Nat} {l : List Der}, DOk C l → i < l.length → (∀ j ∈ js, j < C.J) → DOk C (jobsD C l i js)
 | [], l, h, _, _ => h
 | j :: js, l, h, hi, hj => by
   unfold jobsD
   split
   · exact jobsD_ok h hi fun k hk => hj k (List.mem_cons_of_mem _ hk)
   · rename_i q
     exact jobsD_ok (pass_ok C h hi (hj j (List.mem_cons_self ..)) q) (Nat.lt_of_lt_of_le hi (pre_len (pass_pre C l i j))) fun k hk => hj k (List.mem_cons_of_mem _ hk)
theorem stepD_ok {l : List Der} (h : DOk C l) {i : Nat} (hi : i < l.length) : DOk C (stepD C l i) :=
 jobsD_ok C (addrD_ok C h hi) (Nat.lt_of_lt_of_le hi (pre_len (addrD_pre C l i))) fun j hj => List.mem_range.1 hj
theorem roundGo_ok : ∀ {is : List Nat} {l : List Der}, DOk C l → (∀ i ∈ is, i < l.length) → DOk C (roundGo C l is)
 | [], l, h, _ => h
 | i :: is, l, h, hi => by
   unfold roundGo
   exact roundGo_ok (stepD_ok C h (hi i (List.mem_cons_self ..))) fun k hk => Nat.lt_of_lt_of_le (hi k (List.mem_cons_of_mem _ hk)) (pre_len (stepD_pre C l i))
theorem round_ok {l : List Der} (h : DOk C l) : DOk C (round C l) := roundGo_ok C h fun i hi => List.mem_range.1 hi
theorem seedJ_ok {j : Nat} (hj : j < C.J) : ∀ {ks : List Nat} {l : List Der}, DOk C l → (∀ k ∈ ks, k < C.O) → DOk C (seedJ C l j ks)
 | [], l, h, _ => h
 | k :: ks, l, h, hk => by
   unfold seedJ
   split
   · exact seedJ_ok hj h fun m hm => hk m (List.mem_cons_of_mem _ hm)
   · rename_i q
     have hk0 := hk k (List.mem_cons_self ..)
     refine seedJ_ok hj (h.addD C ⟨⟨by simp, by simp; omega⟩, ⟨by simp, by simp; omega⟩, .inl ⟨rfl, rfl, rfl, rfl, rfl, q, by simp⟩⟩) fun m hm => hk m (List.mem_cons_of_mem _ hm)
theorem seedsGo_ok : ∀ {js : List Nat} {l : List Der}, DOk C l → (∀ j ∈ js, j < C.J) → DOk C (seedsGo C l js)
 | [], l, h, _ => h
 | j :: js, l, h, hj => by
   unfold seedsGo
   exact seedsGo_ok (seedJ_ok C (hj j (List.mem_cons_self ..)) h fun k hk => List.mem_range.1 hk) fun k hk => hj k (List.mem_cons_of_mem _ hk)
theorem seeds_ok : DOk C (seeds C) := seedsGo_ok C .nil fun j hj => List.mem_range.1 hj
theorem seedJ_pre (j : Nat) : ∀ (ks : List Nat) (l : List Der), l <+: seedJ C l j ks
 | [], l => List.prefix_refl _
 | k :: ks, l => by
   unfold seedJ
   refine List.IsPrefix.trans ?_ (seedJ_pre j ks _)
   split
   · exact List.prefix_refl _
   · exact addD_pre ..
theorem seedsGo_pre : ∀ (js : List Nat) (l : List Der), l <+: seedsGo C l js
 | [], l => List.prefix_refl _
 | j :: js, l => (seedJ_pre C j _ l).trans (seedsGo_pre js _)
theorem seedJ_all {j : Nat} : ∀ {ks : List Nat} {l : List Der}, ∀ k ∈ ks, C.au j k ≠ 0 → (⟨(j : Int), (k : Int), 1, C.au j k⟩ : Cap) ∈ (seedJ C l j ks).map Der.cap
 | m :: ks, l, k, hk, h0 => by
   unfold seedJ
   rcases List.mem_cons.1 hk with rfl | hk
   · rw [if_neg h0]
     exact pre_mem (seedJ_pre C j ks _) (addD_mem l ⟨⟨(j : Int), (k : Int), 1, C.au j k⟩, 0, 0, 0, 0⟩)
   · exact seedJ_all k hk h0
theorem seedsGo_all : ∀ {js : List Nat} {l : List Der}, ∀ j ∈ js, ∀ k, k < C.O → C.au j k ≠ 0 → (⟨(j : Int), (k : Int), 1, C.au j k⟩ : Cap) ∈ (seedsGo C l js).map Der.cap
 | m :: js, l, j, hj, k, hk, h0 => by
   unfold seedsGo
   rcases List.mem_cons.1 hj with rfl | hj
   · exact pre_mem (seedsGo_pre C js _) (seedJ_all C k (List.mem_range.2 hk) h0)
   · exact seedsGo_all j hj k hk h0
theorem addD_same {l : List Der} {x : Der} (h : addD l x = l) : x.cap ∈ l.map Der.cap := by
 have := addD_mem l x; rw [h] at this; exact this
theorem gate_any {j s n : Int} {l : List Der} {y : Cap} (hy : y ∈ l.map Der.cap) (h1 : y.job = j) (h2 : y.object = s) (h3 : y.kind = 1) (h4 : C.inc y.auth n = true) : 0 ≤ gate C l j s n := by
 obtain ⟨z, hz, rfl⟩ := List.mem_map.1 hy
 exact Classical.byContradiction fun q => gateGo_none C (i := 0) q z hz ⟨h1, h2, h3, h4⟩
theorem passGo_same {l : List Der} {x : Cap} {i j : Nat} : ∀ {ss : List Nat}, passGo C l x i j ss = l → (∃ s ∈ ss, C.sp (s : Int) = true ∧ 0 ≤ gate C l x.job (s : Int) 128 ∧ 0 ≤ gate C l (j : Int) (s : Int) 32) → (⟨(j : Int), x.object, x.kind, x.auth⟩ : Cap) ∈ l.map Der.cap
 | [], _, ⟨s, hs, _⟩ => by cases hs
 | t :: ss, h, ⟨s, hs, q⟩ => by
   unfold passGo at h
   split at h
   · exact addD_same h
   · rename_i r
     rcases List.mem_cons.1 hs with rfl | hs
     · exact absurd q r
     · exact passGo_same h ⟨s, hs, q⟩
theorem jobsD_same {i : Nat} : ∀ {js : List Nat} {l : List Der}, jobsD C l i js = l → ∀ j ∈ js, (j : Int) ≠ (l.getD i default).cap.job → pass C l i j = l
 | m :: js, l, h, j, hj, hne => by
   unfold jobsD at h
   have hp : ∀ m' : List Der, l <+: m' → jobsD C m' i js = l → m' = l := fun m' h1 h2 => pre_eq h1 (Nat.le_antisymm (by rw [← h2] ; exact pre_len (jobsD_pre C i js m')) (pre_len h1))
   split at h
   · rename_i q
     rcases List.mem_cons.1 hj with rfl | hj
     · exact absurd q hne
     · exact jobsD_same h j hj hne
   · rename_i q
     have e := hp _ (pass_pre C l i m) h
     rcases List.mem_cons.1 hj with rfl | hj
     · exact e
     · rw [e] at h; exact jobsD_same h j hj hne
theorem stepD_same {l : List Der} {i : Nat} (h : stepD C l i = l) : addrD C l i = l ∧ jobsD C l i (List.range C.J) = l := by
 have e : addrD C l i = l := pre_eq (addrD_pre C l i) (Nat.le_antisymm (by have := pre_len (jobsD_pre C i (List.range C.J) (addrD C l i)); unfold stepD at h; rw [h] at this; exact this) (pre_len (addrD_pre C l i)))
 unfold stepD at h; rw [e] at h; exact ⟨e, h⟩
theorem roundGo_same : ∀ {is : List Nat} {l : List Der}, roundGo C l is = l → ∀ i ∈ is, stepD C l i = l
 | m :: is, l, h, i, hi => by
   unfold roundGo at h
   have e : stepD C l m = l := pre_eq (stepD_pre C l m) (Nat.le_antisymm (by have := pre_len (roundGo_pre C is (stepD C l m)); rw [h] at this; exact this) (pre_len (stepD_pre C l m)))
   rcases List.mem_cons.1 hi with rfl | hi
   · exact e
   · rw [e] at h; exact roundGo_same h i hi
theorem closed_of {l : List Der} (hO : DOk C l) (hsp : ∀ o, C.sp o = true → 0 ≤ o ∧ o < (C.O : Int)) (hs : seeds C <+: l) (h : round C l = l) : Closed C (l.map Der.cap) := by
 have hst : ∀ i, i < l.length → stepD C l i = l := fun i hi => roundGo_same C h i (List.mem_range.2 hi)
 have hix : ∀ x ∈ l.map Der.cap, ∃ i, i < l.length ∧ (l.getD i default).cap = x := fun x hx => by
  obtain ⟨y, hy, rfl⟩ := List.mem_map.1 hx
  obtain ⟨i, hi, rfl⟩ := List.mem_iff_getElem.1 hy
  exact ⟨i, hi, by simp [List.getD_eq_getElem?_getD, hi]⟩
 refine ⟨fun j k hj hk h0 => pre_mem hs (seedsGo_all C j (List.mem_range.2 hj) k hk h0), fun x hx hc => ?_, fun x hx w hw r hr j hj h1 h2 h3 h4 h5 h6 => ?_⟩
 · obtain ⟨i, hi, rfl⟩ := hix x hx
   have e := (stepD_same C (hst i hi)).1
   unfold addrD at e
   rw [if_pos hc] at e
   exact addD_same e
 · obtain ⟨i, hi, rfl⟩ := hix x hx
   have e := jobsD_same C (stepD_same C (hst i hi)).2 j (List.mem_range.2 hj) h3
   unfold CC.chan at h5 h6
   simp only [Bool.and_eq_true, decide_eq_true_eq] at h5 h6
   obtain ⟨s0, s1⟩ := hsp _ h5.1.2
   refine passGo_same C e ⟨w.object.toNat, List.mem_range.2 (by omega), ?_⟩
   have ew : ((w.object.toNat : Nat) : Int) = w.object := by omega
   rw [ew]
   exact ⟨h5.1.2, gate_any C hw h1 rfl h5.1.1 h5.2, gate_any C hr h2 h4.symm h6.1.1 h6.2⟩
end Go.Proofs.YtbhgehhmjpipiaaGreatDoor.C12
namespace Go.Proofs.YtbhgehhmjpipiaaGreatDoor.C12
variable (C : CC)
theorem nodup_le : ∀ {l m : List Cap}, l.Nodup → (∀ x ∈ l, x ∈ m) → l.length ≤ m.length
 | [], m, _, _ => Nat.zero_le _
 | a :: l, m, h, hs => by
   obtain ⟨h1, h2⟩ := List.nodup_cons.1 h
   have ha := hs a (List.mem_cons_self ..)
   have := nodup_le (m := m.erase a) h2 fun x hx => (List.mem_erase_of_ne fun e => h1 (by subst e; exact hx)).2 (hs x (List.mem_cons_of_mem _ hx))
   rw [List.length_erase_of_mem ha] at this
   have := List.length_pos_of_mem ha
   simp only [List.length_cons]; omega
def univJ (C : CC) (j k : Nat) : List Cap := ⟨(j : Int), (k : Int), 0, 0⟩ :: (List.range C.J).map fun m => ⟨(j : Int), (k : Int), 1, C.au m k⟩
def univ (C : CC) : List Cap := (List.range C.J).flatMap fun j => (List.range C.O).flatMap fun k => univJ C j k
theorem len_flatMap {α β : Type} {f : α → List β} {n : Nat} : ∀ {l : List α}, (∀ x ∈ l, (f x).length = n) → (l.flatMap f).length = l.length * n
 | [], _ => by simp
 | x :: l, h => by
   rw [List.flatMap_cons, List.length_append, h x (List.mem_cons_self ..), len_flatMap fun y hy => h y (List.mem_cons_of_mem _ hy), List.length_cons, Nat.succ_mul]; omega
theorem univ_len : (univ C).length = C.J * (C.O * (C.J + 1)) := by
 unfold univ
 rw [len_flatMap (n := C.O * (C.J + 1)) fun j _ => by rw [len_flatMap (n := C.J + 1) fun k _ => by simp [univJ]]; simp]
 simp
theorem Drv.form {x : Cap} (h : Drv C x) (hsp : ∀ o, C.sp o = true → 0 ≤ o ∧ o < (C.O : Int)) : (0 ≤ x.job ∧ x.job < (C.J : Int)) ∧ (0 ≤ x.object ∧ x.object < (C.O : Int)) ∧ ((x.kind = 0 ∧ x.auth = 0) ∨ (x.kind = 1 ∧ ∃ m, m < C.J ∧ x.auth = C.au m x.object.toNat)) := by
 induction h with
 | seed j k hj hk h => exact ⟨⟨by simp, by simp; omega⟩, ⟨by simp, by simp; omega⟩, .inr ⟨rfl, j, hj, by simp⟩⟩
 | addr x hx h ih => exact ⟨ih.1, ih.2.1, .inl ⟨rfl, rfl⟩⟩
 | pass x w r j hj hx hw hr h1 h2 h3 h4 h5 h6 i1 i2 i3 => exact ⟨⟨by simp, by simp; omega⟩, i1.2.1, i1.2.2⟩
theorem Drv.univ {x : Cap} (h : Drv C x) (hsp : ∀ o, C.sp o = true → 0 ≤ o ∧ o < (C.O : Int)) : x ∈ univ C := by
 obtain ⟨⟨h1, h2⟩, ⟨h3, h4⟩, h5⟩ := h.form C hsp
 refine List.mem_flatMap.2 ⟨x.job.toNat, List.mem_range.2 (by omega), List.mem_flatMap.2 ⟨x.object.toNat, List.mem_range.2 (by omega), ?_⟩⟩
 have e1 : ((x.job.toNat : Nat) : Int) = x.job := by omega
 have e2 : ((x.object.toNat : Nat) : Int) = x.object := by omega
 unfold univJ
 rw [e1, e2]
 rcases h5 with ⟨q1, q2⟩ | ⟨q1, m, q2, q3⟩
 · refine List.mem_cons.2 (.inl ?_)
   rw [Cap.ext_iff']; exact ⟨rfl, rfl, q1, q2⟩
 · refine List.mem_cons.2 (.inr (List.mem_map.2 ⟨m, List.mem_range.2 q2, ?_⟩))
   rw [Cap.ext_iff']; exact ⟨rfl, rfl, q1.symm, q3.symm⟩
structure CC.Fit (C : CC) : Prop where
 J : C.J ≤ 3
 O : C.O ≤ 5
 sp : ∀ o, C.sp o = true → 0 ≤ o ∧ o < (C.O : Int)
theorem CC.Fit.univ {C : CC} (h : C.Fit) : (univ C).length ≤ 60 := by
 rw [univ_len]
 have h1 := h.J; have h2 := h.O
 have : C.O * (C.J + 1) ≤ 5 * 4 := Nat.mul_le_mul h2 (by omega)
 exact Nat.le_trans (Nat.mul_le_mul h1 this) (by decide)
theorem CC.Fit.len {C : CC} (h : C.Fit) {l : List Der} (hO : DOk C l) : l.length ≤ 60 := by
 have := nodup_le hO.nodup (m := C12.univ C) fun x hx => by
  obtain ⟨y, hy, rfl⟩ := List.mem_map.1 hx
  exact (hO.drv C y hy).1.univ C h.sp
 rw [List.length_map] at this
 exact Nat.le_trans this h.univ
def deriveN (C : CC) : Nat → List Der → List Der
 | 0, l => l
 | n + 1, l => if (round C l).length = l.length then l else deriveN C n (round C l)
def derive (C : CC) : List Der := deriveN C 60 (seeds C)
theorem deriveN_stop {l : List Der} (h : (round C l).length = l.length) : ∀ n, deriveN C n l = l
 | 0 => rfl
 | n + 1 => by unfold deriveN; rw [if_pos h]
theorem deriveN_go {C : CC} (hF : C.Fit) {l : List Der} (hO : DOk C l) (h : ¬ (round C l).length = l.length) {n : Nat} (hn : 60 - l.length ≤ n) : ∃ m, n = m + 1 ∧ deriveN C n l = deriveN C m (round C l) ∧ 60 - (round C l).length ≤ m := by
 have h1 := hF.len (round_ok C hO)
 have h2 := pre_len (round_pre C l)
 cases n with
 | zero => omega
 | succ n => exact ⟨n, rfl, by rw [deriveN, if_neg h], by omega⟩
structure Done (C : CC) (l : List Der) : Prop where
 ok : DOk C l
 seed : seeds C <+: l
 stop : round C l = l
theorem deriveN_done {C : CC} (hF : C.Fit) : ∀ {n : Nat} {l : List Der}, DOk C l → seeds C <+: l → 60 - l.length ≤ n → Done C (deriveN C n l)
 | 0, l, h, hs, hn => by
   have h1 := hF.len (round_ok C h)
   have h2 := pre_len (round_pre C l)
   have h3 : 60 ≤ l.length := by omega
   have h4 : (round C l).length = l.length := by omega
   exact ⟨h, hs, pre_eq (round_pre C l) h4⟩
 | n + 1, l, h, hs, hn => by
   unfold deriveN
   split
   · rename_i q; exact ⟨h, hs, pre_eq (round_pre C l) q⟩
   · rename_i q
     have h2 := pre_len (round_pre C l)
     exact deriveN_done hF (round_ok C h) (hs.trans (round_pre C l)) (by omega)
theorem derive_done {C : CC} (hF : C.Fit) : Done C (derive C) := deriveN_done hF (seeds_ok C) (List.prefix_refl _) (by omega)
theorem Done.closed {C : CC} (hF : C.Fit) {l : List Der} (h : Done C l) : Closed C (l.map Der.cap) := closed_of C h.ok hF.sp h.seed h.stop
theorem Done.drv {C : CC} {l : List Der} (h : Done C l) : ∀ x ∈ l.map Der.cap, Drv C x := fun x hx => by
 obtain ⟨y, hy, rfl⟩ := List.mem_map.1 hx
 exact (h.ok.drv C y hy).1
def rSeedJ (C : CC) (l : List Cap) (j : Nat) : List Nat → List Cap
 | [] => l
 | k :: ks => rSeedJ C (if C.au j k = 0 then l else put l ⟨(j : Int), (k : Int), 1, C.au j k⟩) j ks
def rSeedsGo (C : CC) (l : List Cap) : List Nat → List Cap
 | [] => l
 | j :: js => rSeedsGo C (rSeedJ C l j (List.range C.O)) js
def rSeeds (C : CC) : List Cap := rSeedsGo C [] (List.range C.J)
def passes (C : CC) (l : List Cap) (a b : Int) : Bool := l.any fun w => l.any fun r => decide (w.job = a) && decide (r.job = b) && decide (w.object = r.object) && C.chan w 128 && C.chan r 32
def rJobs (C : CC) (l : List Cap) (x : Cap) (m : List Cap) : List Nat → List Cap
 | [] => m
 | j :: js => rJobs C l x (if (j : Int) ≠ x.job ∧ passes C l x.job (j : Int) = true then put m ⟨(j : Int), x.object, x.kind, x.auth⟩ else m) js
def rStep (C : CC) (l m : List Cap) (x : Cap) : List Cap := rJobs C l x (if C.chan x 128 = true then put m ⟨x.job, x.object, 0, 0⟩ else m) (List.range C.J)
def rNextGo (C : CC) (l m : List Cap) : List Cap → List Cap
 | [] => m
 | x :: xs => rNextGo C l (rStep C l m x) xs
def rNext (C : CC) (l : List Cap) : List Cap := rNextGo C l l l
structure Ext (l m : List Cap) : Prop where
 len : l.length ≤ m.length
 same : m.length = l.length → m = l
 mem : ∀ x ∈ l, x ∈ m
theorem Ext.refl (l : List Cap) : Ext l l := ⟨Nat.le_refl _, fun _ => rfl, fun _ h => h⟩
theorem Ext.trans {l m n : List Cap} (h : Ext l m) (k : Ext m n) : Ext l n := by
 refine ⟨Nat.le_trans h.len k.len, fun q => ?_, fun x hx => k.mem x (h.mem x hx)⟩
 have h1 := h.len; have h2 := k.len
 rw [k.same (by omega), h.same (by omega)]
theorem Ext.of_put (l : List Cap) (x : Cap) : Ext l (put l x) := by
 refine ⟨put_len x l, fun q => ?_, fun y hy => (put_mem x y l).2 (.inr hy)⟩
 unfold put at q ⊢
 split
 · rfl
 · rename_i h
   rw [if_neg h, putGo_len] at q; omega
theorem rJobs_ext (l : List Cap) (x : Cap) : ∀ (js : List Nat) (m : List Cap), Ext m (rJobs C l x m js)
 | [], m => .refl m
 | j :: js, m => by
   unfold rJobs
   refine Ext.trans ?_ (rJobs_ext l x js _)
   split
   · exact .of_put ..
   · exact .refl _
theorem rStep_ext (l m : List Cap) (x : Cap) : Ext m (rStep C l m x) := by
 unfold rStep
 refine Ext.trans ?_ (rJobs_ext C l x _ _)
 split
 · exact .of_put ..
 · exact .refl _
theorem rNextGo_ext (l : List Cap) : ∀ (xs m : List Cap), Ext m (rNextGo C l m xs)
 | [], m => .refl m
 | x :: xs, m => (rStep_ext C l m x).trans (rNextGo_ext l xs _)
theorem rNext_ext (l : List Cap) : Ext l (rNext C l) := rNextGo_ext C l l l
structure ROk (C : CC) (m : List Cap) : Prop where
 sorted : Sorted m
 drv : ∀ x ∈ m, Drv C x
theorem ROk.put {m : List Cap} (h : ROk C m) {x : Cap} (hx : Drv C x) : ROk C (put m x) :=
 ⟨put_sorted h.sorted, fun y hy => by rcases (put_mem x y m).1 hy with rfl | q; exact hx; exact h.drv y q⟩
theorem passes_some {l : List Cap} {a b : Int} (h : passes C l a b = true) : ∃ w ∈ l, ∃ r ∈ l, w.job = a ∧ r.job = b ∧ w.object = r.object ∧ C.chan w 128 = true ∧ C.chan r 32 = true := by
 unfold passes at h
 obtain ⟨w, hw, h2⟩ := List.any_eq_true.1 h
 obtain ⟨r, hr, h3⟩ := List.any_eq_true.1 h2
 simp only [Bool.and_eq_true, decide_eq_true_eq] at h3
 exact ⟨w, hw, r, hr, h3.1.1.1.1, h3.1.1.1.2, h3.1.1.2, h3.1.2, h3.2⟩
theorem passes_of {l : List Cap} {w r : Cap} (hw : w ∈ l) (hr : r ∈ l) (h : w.object = r.object) (h5 : C.chan w 128 = true) (h6 : C.chan r 32 = true) : passes C l w.job r.job = true := by
 unfold passes
 exact List.any_eq_true.2 ⟨w, hw, List.any_eq_true.2 ⟨r, hr, by simp [h, h5, h6]⟩⟩
theorem rJobs_ok {l : List Cap} (hl : ∀ x ∈ l, Drv C x) {x : Cap} (hx : Drv C x) : ∀ {js : List Nat} {m : List Cap}, ROk C m → (∀ j ∈ js, j < C.J) → ROk C (rJobs C l x m js)
 | [], m, h, _ => h
 | j :: js, m, h, hj => by
   unfold rJobs
   refine rJobs_ok hl hx ?_ fun k hk => hj k (List.mem_cons_of_mem _ hk)
   split
   · rename_i q
     obtain ⟨w, hw, r, hr, q1, q2, q3, q4, q5⟩ := passes_some C q.2
     exact h.put C (Drv.pass x w r j (hj j (List.mem_cons_self ..)) hx (hl w hw) (hl r hr) q1 q2 q.1 q3 q4 q5)
   · exact h
theorem rNextGo_ok {l : List Cap} (hl : ∀ x ∈ l, Drv C x) : ∀ {xs m : List Cap}, (∀ x ∈ xs, Drv C x) → ROk C m → ROk C (rNextGo C l m xs)
 | [], m, _, h => h
 | x :: xs, m, hx, h => by
   unfold rNextGo rStep
   have hd := hx x (List.mem_cons_self ..)
   refine rNextGo_ok hl (fun y hy => hx y (List.mem_cons_of_mem _ hy)) (rJobs_ok C hl hd ?_ fun j hj => List.mem_range.1 hj)
   split
   · rename_i q; exact h.put C (Drv.addr x hd q)
   · exact h
theorem rNext_ok {l : List Cap} (h : ROk C l) : ROk C (rNext C l) := rNextGo_ok C h.drv h.drv h
theorem rSeedJ_ok {j : Nat} (hj : j < C.J) : ∀ {ks : List Nat} {m : List Cap}, ROk C m → (∀ k ∈ ks, k < C.O) → ROk C (rSeedJ C m j ks)
 | [], m, h, _ => h
 | k :: ks, m, h, hk => by
   unfold rSeedJ
   refine rSeedJ_ok hj ?_ fun i hi => hk i (List.mem_cons_of_mem _ hi)
   split
   · exact h
   · rename_i q; exact h.put C (Drv.seed j k hj (hk k (List.mem_cons_self ..)) q)
theorem rSeedsGo_ok : ∀ {js : List Nat} {m : List Cap}, ROk C m → (∀ j ∈ js, j < C.J) → ROk C (rSeedsGo C m js)
 | [], m, h, _ => h
 | j :: js, m, h, hj => by
   unfold rSeedsGo
   exact rSeedsGo_ok (rSeedJ_ok C (hj j (List.mem_cons_self ..)) h fun k hk => List.mem_range.1 hk) fun i hi => hj i (List.mem_cons_of_mem _ hi)
theorem rSeeds_ok : ROk C (rSeeds C) := rSeedsGo_ok C ⟨by simp [Sorted], fun x hx => by cases hx⟩ fun j hj => List.mem_range.1 hj
theorem rSeedJ_ext (j : Nat) : ∀ (ks : List Nat) (m : List Cap), Ext m (rSeedJ C m j ks)
 | [], m => .refl m
 | k :: ks, m => by
   unfold rSeedJ
   refine Ext.trans ?_ (rSeedJ_ext j ks _)
   split
   · exact .refl _
   · exact .of_put ..
theorem rSeedsGo_ext : ∀ (js : List Nat) (m : List Cap), Ext m (rSeedsGo C m js)
 | [], m => .refl m
 | j :: js, m => (rSeedJ_ext C j _ m).trans (rSeedsGo_ext js _)
theorem rSeedJ_all {j : Nat} : ∀ {ks : List Nat} {m : List Cap}, ∀ k ∈ ks, C.au j k ≠ 0 → (⟨(j : Int), (k : Int), 1, C.au j k⟩ : Cap) ∈ rSeedJ C m j ks
 | i :: ks, m, k, hk, h0 => by
   unfold rSeedJ
   rcases List.mem_cons.1 hk with rfl | hk
   · rw [if_neg h0]
     exact (rSeedJ_ext C j ks _).mem _ ((put_mem _ _ _).2 (.inl rfl))
   · exact rSeedJ_all k hk h0
theorem rSeedsGo_all : ∀ {js : List Nat} {m : List Cap}, ∀ j ∈ js, ∀ k, k < C.O → C.au j k ≠ 0 → (⟨(j : Int), (k : Int), 1, C.au j k⟩ : Cap) ∈ rSeedsGo C m js
 | i :: js, m, j, hj, k, hk, h0 => by
   unfold rSeedsGo
   rcases List.mem_cons.1 hj with rfl | hj
   · exact (rSeedsGo_ext C js _).mem _ (rSeedJ_all C k (List.mem_range.2 hk) h0)
   · exact rSeedsGo_all j hj k hk h0
theorem put_in {m : List Cap} {x : Cap} (h : put m x = m) : x ∈ m := by
 have := (put_mem x x m).2 (.inl rfl); rw [h] at this; exact this
theorem rJobs_same {l : List Cap} {x : Cap} : ∀ {js : List Nat} {m : List Cap}, rJobs C l x m js = m → ∀ j ∈ js, (j : Int) ≠ x.job → passes C l x.job (j : Int) = true → (⟨(j : Int), x.object, x.kind, x.auth⟩ : Cap) ∈ m
 | i :: js, m, h, j, hj, q1, q2 => by
   unfold rJobs at h
   have e : (if (i : Int) ≠ x.job ∧ passes C l x.job (i : Int) = true then put m ⟨(i : Int), x.object, x.kind, x.auth⟩ else m) = m := by
    have e1 := rJobs_ext C l x js (if (i : Int) ≠ x.job ∧ passes C l x.job (i : Int) = true then put m ⟨(i : Int), x.object, x.kind, x.auth⟩ else m)
    rw [h] at e1
    have e2 : Ext m (if (i : Int) ≠ x.job ∧ passes C l x.job (i : Int) = true then put m ⟨(i : Int), x.object, x.kind, x.auth⟩ else m) := by
     split
     · exact .of_put ..
     · exact .refl _
    exact e2.same (Nat.le_antisymm e1.len e2.len)
   rcases List.mem_cons.1 hj with rfl | hj
   · rw [if_pos ⟨q1, q2⟩] at e
     exact put_in e
   · rw [e] at h; exact rJobs_same h j hj q1 q2
theorem rNextGo_same {l : List Cap} : ∀ {xs m : List Cap}, rNextGo C l m xs = m → ∀ x ∈ xs, rStep C l m x = m
 | y :: xs, m, h, x, hx => by
   unfold rNextGo at h
   have e : rStep C l m y = m := by
    have e1 := rNextGo_ext C l xs (rStep C l m y)
    rw [h] at e1
    have e2 := rStep_ext C l m y
    exact e2.same (Nat.le_antisymm e1.len e2.len)
   rcases List.mem_cons.1 hx with rfl | hx
   · exact e
   · rw [e] at h; exact rNextGo_same h x hx
theorem rStep_same {l m : List Cap} {x : Cap} (h : rStep C l m x = m) : (C.chan x 128 = true → (⟨x.job, x.object, 0, 0⟩ : Cap) ∈ m) ∧ rJobs C l x m (List.range C.J) = m := by
 unfold rStep at h
 have e : (if C.chan x 128 = true then put m ⟨x.job, x.object, 0, 0⟩ else m) = m := by
  have e1 := rJobs_ext C l x (List.range C.J) (if C.chan x 128 = true then put m ⟨x.job, x.object, 0, 0⟩ else m)
  rw [h] at e1
  have e2 : Ext m (if C.chan x 128 = true then put m ⟨x.job, x.object, 0, 0⟩ else m) := by
   split
   · exact .of_put ..
   · exact .refl _
  exact e2.same (Nat.le_antisymm e1.len e2.len)
 refine ⟨fun q => ?_, by rw [e] at h; exact h⟩
 rw [if_pos q] at e
 exact put_in e
theorem rClosed_of {l : List Cap} (hs : Ext (rSeeds C) l) (h : rNext C l = l) : Closed C l := by
 have hst : ∀ x ∈ l, rStep C l l x = l := rNextGo_same C h
 refine ⟨fun j k hj hk h0 => hs.mem _ (rSeedsGo_all C j (List.mem_range.2 hj) k hk h0), fun x hx hc => (rStep_same C (hst x hx)).1 hc, fun x hx w hw r hr j hj h1 h2 h3 h4 h5 h6 => ?_⟩
 refine rJobs_same C (rStep_same C (hst x hx)).2 j (List.mem_range.2 hj) h3 ?_
 rw [← h1, ← h2]; exact passes_of C hw hr h4 h5 h6
def rClosureN (C : CC) : Nat → List Cap → List Cap
 | 0, l => l
 | n + 1, l => if (rNext C l).length = l.length then l else rClosureN C n (rNext C l)
def rClosure (C : CC) : List Cap := rClosureN C 60 (rSeeds C)
theorem sorted_nodup {l : List Cap} (h : Sorted l) : l.Nodup := by
 refine List.Pairwise.imp (fun {a b} q e => ?_) h
 subst e; rw [Cap.lt_irrefl] at q; cases q
theorem CC.Fit.rlen {C : CC} (h : C.Fit) {l : List Cap} (hO : ROk C l) : l.length ≤ 60 :=
 Nat.le_trans (nodup_le (sorted_nodup hO.sorted) (m := C12.univ C) fun x hx => (hO.drv x hx).univ C h.sp) h.univ
structure RDone (C : CC) (l : List Cap) : Prop where
 ok : ROk C l
 seed : Ext (rSeeds C) l
 stop : rNext C l = l
theorem rClosureN_done {C : CC} (hF : C.Fit) : ∀ {n : Nat} {l : List Cap}, ROk C l → Ext (rSeeds C) l → 60 - l.length ≤ n → RDone C (rClosureN C n l)
 | 0, l, h, hs, hn => by
   have h1 := hF.rlen (rNext_ok C h)
   have h2 := (rNext_ext C l).len
   exact ⟨h, hs, (rNext_ext C l).same (by have := hF.rlen h; omega)⟩
 | n + 1, l, h, hs, hn => by
   unfold rClosureN
   split
   · rename_i q; exact ⟨h, hs, (rNext_ext C l).same q⟩
   · rename_i q
     have h2 := (rNext_ext C l).len
     exact rClosureN_done hF (rNext_ok C h) (hs.trans (rNext_ext C l)) (by omega)
theorem rClosure_done {C : CC} (hF : C.Fit) : RDone C (rClosure C) := rClosureN_done hF (rSeeds_ok C) (.refl _) (by omega)
theorem closure_same {C : CC} (hF : C.Fit) {l : List Cap} (hp : ∀ x, x ∈ l ↔ x ∈ (derive C).map Der.cap) (hs : l.Pairwise fun a b => b.lt a = false) : compact l = rClosure C := by
 have D := derive_done hF
 have R := rClosure_done hF
 refine Sorted.unique (compact_sorted hs) R.ok.sorted fun x => ?_
 rw [compact_mem, hp]
 exact closed_same C (D.closed hF) D.drv (rClosed_of C R.seed R.stop) R.ok.drv x
end Go.Proofs.YtbhgehhmjpipiaaGreatDoor.C12
