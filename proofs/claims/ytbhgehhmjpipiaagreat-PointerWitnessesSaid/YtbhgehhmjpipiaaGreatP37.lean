
/- Chapter 12: the plain law of closures: the derivations of the program and the closure of the reference hold the same. -/
import Derived.Laws.BitsLemmas
set_option linter.unusedVariables false
set_option linter.unusedSimpArgs false
namespace Go.Proofs.YtbhgehhmjpipiaaGreat.C12

structure Cap where
  job : Int
  object : Int
  kind : Int
  auth : Int
deriving DecidableEq, Inhabited
structure Der where
  cap : Cap
  kind : Int
  source : Int
  writer : Int
  reader : Int
deriving DecidableEq, Inhabited
/-- A case, as the derivations look at it: jobs, objects, the authority of a job's user for an object, the spaces, what includes what. -/
structure CC where
  J : Nat
  O : Nat
  au : Nat → Nat → Int
  sp : Int → Bool
  inc : Int → Int → Bool

/-! ### The order of capabilities -/
def Cap.lt (a b : Cap) : Bool := if a.job ≠ b.job then decide (a.job < b.job) else if a.object ≠ b.object then decide (a.object < b.object) else if a.kind ≠ b.kind then decide (a.kind < b.kind) else decide (a.auth < b.auth)
theorem Cap.lt_iff {a b : Cap} : a.lt b = true ↔ a.job < b.job ∨ (a.job = b.job ∧ (a.object < b.object ∨ (a.object = b.object ∧ (a.kind < b.kind ∨ (a.kind = b.kind ∧ a.auth < b.auth))))) := by
  unfold Cap.lt
  split
  · simp; omega
  · split
    · simp; omega
    · split
      · simp; omega
      · simp; omega
theorem Cap.lt_irrefl (a : Cap) : a.lt a = false := by
  cases h : a.lt a with
  | false => rfl
  | true => rw [Cap.lt_iff] at h; omega
theorem Cap.lt_trans {a b c : Cap} (h1 : a.lt b = true) (h2 : b.lt c = true) : a.lt c = true := by
  rw [Cap.lt_iff] at h1 h2 ⊢; omega
theorem Cap.ext_iff' {a b : Cap} : a = b ↔ a.job = b.job ∧ a.object = b.object ∧ a.kind = b.kind ∧ a.auth = b.auth := by
  cases a; cases b; simp
theorem Cap.lt_total {a b : Cap} (h : a.lt b = false) : b.lt a = true ∨ a = b := by
  by_cases q : b.lt a = true
  · exact .inl q
  · right
    have h1 : ¬ a.lt b = true := by rw [h]; decide
    rw [Cap.lt_iff] at h1 q
    rw [Cap.ext_iff']
    omega
def Sorted (l : List Cap) : Prop := l.Pairwise fun a b => a.lt b = true

/-- Two lists in order that hold the same are the same. -/
theorem Sorted.unique : ∀ {l m : List Cap}, Sorted l → Sorted m → (∀ x, x ∈ l ↔ x ∈ m) → l = m
  | [], [], _, _, _ => rfl
  | [], b :: m, _, _, h => absurd ((h b).2 (List.mem_cons_self ..)) (by simp)
  | a :: l, [], _, _, h => absurd ((h a).1 (List.mem_cons_self ..)) (by simp)
  | a :: l, b :: m, hl, hm, h => by
    obtain ⟨ha, hl'⟩ := List.pairwise_cons.1 hl
    obtain ⟨hb, hm'⟩ := List.pairwise_cons.1 hm
    have hab : a = b := by
      rcases List.mem_cons.1 ((h a).1 (List.mem_cons_self ..)) with q | q
      · exact q
      · rcases List.mem_cons.1 ((h b).2 (List.mem_cons_self ..)) with r | r
        · exact r.symm
        · have := Cap.lt_trans (ha b r) (hb a q)
          rw [Cap.lt_irrefl] at this; cases this
    subst hab
    rw [Sorted.unique hl' hm' fun x => ⟨fun hx => ?_, fun hx => ?_⟩]
    · rcases List.mem_cons.1 ((h x).1 (List.mem_cons_of_mem _ hx)) with q | q
      · subst q; have := ha x hx; rw [Cap.lt_irrefl] at this; cases this
      · exact q
    · rcases List.mem_cons.1 ((h x).2 (List.mem_cons_of_mem _ hx)) with q | q
      · subst q; have := hb x hx; rw [Cap.lt_irrefl] at this; cases this
      · exact q

/-! ### The program's list in order, each once -/
/-- What is left of a list when each element like the one before is left out. -/
def compactAux : Cap → List Cap → List Cap
  | _, [] => []
  | a, b :: l => if b = a then compactAux a l else b :: compactAux b l
def compact : List Cap → List Cap
  | [] => []
  | a :: l => a :: compactAux a l
theorem compactAux_mem : ∀ (l : List Cap) (a x : Cap), x ∈ a :: compactAux a l ↔ x ∈ a :: l
  | [], a, x => by simp [compactAux]
  | b :: l, a, x => by
    unfold compactAux
    split
    · rename_i q; subst q
      rw [compactAux_mem l b x]; simp
    · have := compactAux_mem l b x
      rw [List.mem_cons, this]; simp
theorem compact_mem (l : List Cap) (x : Cap) : x ∈ compact l ↔ x ∈ l := by
  cases l with
  | nil => simp [compact]
  | cons a l => exact compactAux_mem l a x
theorem compactAux_sorted : ∀ (l : List Cap) (a : Cap), (a :: l).Pairwise (fun a b => b.lt a = false) → Sorted (a :: compactAux a l)
  | [], a, _ => by simp [compactAux, Sorted]
  | b :: l, a, h => by
    obtain ⟨h1, h2⟩ := List.pairwise_cons.1 h
    unfold compactAux
    split
    · rename_i q; subst q
      exact compactAux_sorted l b h2
    · rename_i q
      have ih := compactAux_sorted l b h2
      have hab : a.lt b = true := by
        rcases Cap.lt_total (h1 b (List.mem_cons_self ..)) with r | r
        · exact r
        · exact absurd r q
      refine List.pairwise_cons.2 ⟨fun x hx => ?_, ih⟩
      rcases List.mem_cons.1 hx with r | r
      · subst r; exact hab
      · exact Cap.lt_trans hab ((List.pairwise_cons.1 ih).1 x r)
theorem compact_sorted {l : List Cap} (h : l.Pairwise (fun a b => b.lt a = false)) : Sorted (compact l) := by
  cases l with
  | nil => simp [compact, Sorted]
  | cons a l => exact compactAux_sorted l a h

/-! ### The reference's list in order -/
def putGo (x : Cap) : List Cap → List Cap
  | [] => [x]
  | a :: l => if x.lt a then x :: a :: l else a :: putGo x l
def put (l : List Cap) (x : Cap) : List Cap := if x ∈ l then l else putGo x l
theorem putGo_mem (x y : Cap) : ∀ l : List Cap, y ∈ putGo x l ↔ y = x ∨ y ∈ l
  | [] => by simp [putGo]
  | a :: l => by
    unfold putGo
    split
    · simp
    · rw [List.mem_cons, putGo_mem x y l, List.mem_cons]
      constructor
      · rintro (h | h | h)
        · exact .inr (.inl h)
        · exact .inl h
        · exact .inr (.inr h)
      · rintro (h | h | h)
        · exact .inr (.inl h)
        · exact .inl h
        · exact .inr (.inr h)
theorem put_mem (x y : Cap) (l : List Cap) : y ∈ put l x ↔ y = x ∨ y ∈ l := by
  unfold put
  split
  · rename_i h
    constructor
    · exact .inr
    · rintro (rfl | q)
      · exact h
      · exact q
  · exact putGo_mem x y l
theorem putGo_sorted {x : Cap} : ∀ {l : List Cap}, Sorted l → x ∉ l → Sorted (putGo x l)
  | [], _, _ => by simp [putGo, Sorted]
  | a :: l, h, hx => by
    obtain ⟨h1, h2⟩ := List.pairwise_cons.1 h
    unfold putGo
    split
    · rename_i q
      refine List.pairwise_cons.2 ⟨fun y hy => ?_, h⟩
      rcases List.mem_cons.1 hy with r | r
      · subst r; exact q
      · exact Cap.lt_trans q (h1 y r)
    · rename_i q
      refine List.pairwise_cons.2 ⟨fun y hy => ?_, putGo_sorted h2 fun r => hx (List.mem_cons_of_mem _ r)⟩
      rcases (putGo_mem x y l).1 hy with r | r
      · subst r
        rcases Cap.lt_total (show y.lt a = false by simpa using q) with s | s
        · exact s
        · subst s; exact absurd (List.mem_cons_self ..) hx
      · exact h1 y r
theorem put_sorted {x : Cap} {l : List Cap} (h : Sorted l) : Sorted (put l x) := by
  unfold put
  split
  · exact h
  · rename_i q; exact putGo_sorted h q
theorem putGo_len (x : Cap) : ∀ l : List Cap, (putGo x l).length = l.length + 1
  | [] => rfl
  | a :: l => by
    unfold putGo
    split
    · rfl
    · simp [putGo_len x l]
theorem put_len (x : Cap) (l : List Cap) : l.length ≤ (put l x).length := by
  unfold put
  split
  · exact Nat.le_refl _
  · rw [putGo_len]; omega

/-! ### What can be derived -/
variable (C : CC)
/-- A system pointer to a space that includes an authority. -/
def CC.chan (x : Cap) (n : Int) : Bool := decide (x.kind = 1) && C.sp x.object && C.inc x.auth n
inductive Drv : Cap → Prop
  | seed (j k : Nat) (hj : j < C.J) (hk : k < C.O) (h : C.au j k ≠ 0) : Drv ⟨(j : Int), (k : Int), 1, C.au j k⟩
  | addr (x : Cap) (hx : Drv x) (h : C.chan x 128 = true) : Drv ⟨x.job, x.object, 0, 0⟩
  | pass (x w r : Cap) (j : Nat) (hj : j < C.J) (hx : Drv x) (hw : Drv w) (hr : Drv r) (h1 : w.job = x.job) (h2 : r.job = (j : Int)) (h3 : (j : Int) ≠ x.job) (h4 : w.object = r.object) (h5 : C.chan w 128 = true) (h6 : C.chan r 32 = true) : Drv ⟨(j : Int), x.object, x.kind, x.auth⟩
/-- A list from which nothing new comes. -/
structure Closed (l : List Cap) : Prop where
  seed : ∀ (j k : Nat), j < C.J → k < C.O → C.au j k ≠ 0 → ⟨(j : Int), (k : Int), 1, C.au j k⟩ ∈ l
  addr : ∀ x ∈ l, C.chan x 128 = true → ⟨x.job, x.object, 0, 0⟩ ∈ l
  pass : ∀ x ∈ l, ∀ w ∈ l, ∀ r ∈ l, ∀ j : Nat, j < C.J → w.job = x.job → r.job = (j : Int) → (j : Int) ≠ x.job → w.object = r.object → C.chan w 128 = true → C.chan r 32 = true → ⟨(j : Int), x.object, x.kind, x.auth⟩ ∈ l
theorem Closed.all {l : List Cap} (h : Closed C l) {x : Cap} (hx : Drv C x) : x ∈ l := by
  induction hx with
  | seed j k hj hk h0 => exact h.seed j k hj hk h0
  | addr x hx h1 ih => exact h.addr x ih h1
  | pass x w r j hj hx hw hr h1 h2 h3 h4 h5 h6 i1 i2 i3 => exact h.pass x i1 w i2 r i3 j hj h1 h2 h3 h4 h5 h6
theorem closed_same {l m : List Cap} (h1 : Closed C l) (h2 : ∀ x ∈ l, Drv C x) (h3 : Closed C m) (h4 : ∀ x ∈ m, Drv C x) (x : Cap) : x ∈ l ↔ x ∈ m :=
  ⟨fun h => h3.all C (h2 x h), fun h => h1.all C (h4 x h)⟩

end Go.Proofs.YtbhgehhmjpipiaaGreat.C12
/- Chapter 12: the plain law of closures: the program's derivations. -/
set_option linter.unusedVariables false
set_option linter.unusedSimpArgs false
namespace Go.Proofs.YtbhgehhmjpipiaaGreat.C12

variable (C : CC)
/-! ### The program's derivations -/
def has (l : List Der) (x : Cap) : Bool := l.any fun y => decide (y.cap = x)
def addD (l : List Der) (x : Der) : List Der := if has l x.cap then l else l ++ [x]
/-- The index of the first system pointer of a job to a space that includes an authority. -/
def gateGo (C : CC) (j s n : Int) : List Der → Nat → Int
  | [], _ => -1
  | y :: l, i => if y.cap.job = j ∧ y.cap.object = s ∧ y.cap.kind = 1 ∧ C.inc y.cap.auth n = true then (i : Int) else gateGo C j s n l (i + 1)
def gate (C : CC) (l : List Der) (j s n : Int) : Int := gateGo C j s n l 0
def passGo (C : CC) (l : List Der) (x : Cap) (i : Nat) (j : Nat) : List Nat → List Der
  | [] => l
  | s :: ss => if C.sp (s : Int) = true ∧ 0 ≤ gate C l x.job (s : Int) 128 ∧ 0 ≤ gate C l (j : Int) (s : Int) 32
      then addD l ⟨⟨(j : Int), x.object, x.kind, x.auth⟩, 2, (i : Int), gate C l x.job (s : Int) 128, gate C l (j : Int) (s : Int) 32⟩ else passGo C l x i j ss
def pass (C : CC) (l : List Der) (i j : Nat) : List Der := passGo C l (l.getD i default).cap i j (List.range C.O)
def addrD (C : CC) (l : List Der) (i : Nat) : List Der := if C.chan (l.getD i default).cap 128 = true then addD l ⟨⟨(l.getD i default).cap.job, (l.getD i default).cap.object, 0, 0⟩, 1, (i : Int), 0, 0⟩ else l
def jobsD (C : CC) (l : List Der) (i : Nat) : List Nat → List Der
  | [] => l
  | j :: js => jobsD C (if (j : Int) = (l.getD i default).cap.job then l else pass C l i j) i js
def stepD (C : CC) (l : List Der) (i : Nat) : List Der := jobsD C (addrD C l i) i (List.range C.J)
def roundGo (C : CC) (l : List Der) : List Nat → List Der
  | [] => l
  | i :: is => roundGo C (stepD C l i) is
def round (C : CC) (l : List Der) : List Der := roundGo C l (List.range l.length)
def seedJ (C : CC) (l : List Der) (j : Nat) : List Nat → List Der
  | [] => l
  | k :: ks => seedJ C (if C.au j k = 0 then l else addD l ⟨⟨(j : Int), (k : Int), 1, C.au j k⟩, 0, 0, 0, 0⟩) j ks
def seedsGo (C : CC) (l : List Der) : List Nat → List Der
  | [] => l
  | j :: js => seedsGo C (seedJ C l j (List.range C.O)) js
def seeds (C : CC) : List Der := seedsGo C [] (List.range C.J)

/-! ### Lists that only grow -/
theorem has_iff {l : List Der} {x : Cap} : has l x = true ↔ x ∈ l.map Der.cap := by
  unfold has
  rw [List.any_eq_true]
  simp [List.mem_map]
theorem addD_pre (l : List Der) (x : Der) : l <+: addD l x := by
  unfold addD; split
  · exact List.prefix_refl _
  · exact List.prefix_append ..
theorem passGo_pre (x : Cap) (i j : Nat) : ∀ (ss : List Nat) (l : List Der), l <+: passGo C l x i j ss
  | [], l => List.prefix_refl _
  | s :: ss, l => by
    unfold passGo; split
    · exact addD_pre ..
    · exact passGo_pre x i j ss l
theorem pass_pre (l : List Der) (i j : Nat) : l <+: pass C l i j := passGo_pre ..
theorem addrD_pre (l : List Der) (i : Nat) : l <+: addrD C l i := by
  unfold addrD; split
  · exact addD_pre ..
  · exact List.prefix_refl _
theorem jobsD_pre (i : Nat) : ∀ (js : List Nat) (l : List Der), l <+: jobsD C l i js
  | [], l => List.prefix_refl _
  | j :: js, l => by
    unfold jobsD
    refine List.IsPrefix.trans ?_ (jobsD_pre i js _)
    split
    · exact List.prefix_refl _
    · exact pass_pre ..
theorem stepD_pre (l : List Der) (i : Nat) : l <+: stepD C l i := (addrD_pre C l i).trans (jobsD_pre C i _ _)
theorem roundGo_pre : ∀ (is : List Nat) (l : List Der), l <+: roundGo C l is
  | [], l => List.prefix_refl _
  | i :: is, l => (stepD_pre C l i).trans (roundGo_pre is _)
theorem round_pre (l : List Der) : l <+: round C l := roundGo_pre C _ l
theorem pre_getD {l m : List Der} (h : l <+: m) {i : Nat} (hi : i < l.length) : m.getD i default = l.getD i default := by
  obtain ⟨t, rfl⟩ := h
  simp [List.getD_eq_getElem?_getD, List.getElem?_append_left hi]
theorem pre_mem {l m : List Der} (h : l <+: m) {x : Cap} (hx : x ∈ l.map Der.cap) : x ∈ m.map Der.cap := by
  obtain ⟨t, rfl⟩ := h; simp only [List.map_append, List.mem_append]; exact .inl hx
theorem pre_len {l m : List Der} (h : l <+: m) : l.length ≤ m.length := h.length_le
theorem pre_eq {l m : List Der} (h : l <+: m) (hl : m.length = l.length) : m = l := (h.eq_of_length hl.symm).symm
theorem get_some {l : List Der} {i : Nat} (h : i < l.length) : l[i]? = some (l.getD i default) := by
  rw [List.getD_eq_getElem?_getD, List.getElem?_eq_getElem h]; rfl
theorem addD_mem (l : List Der) (x : Der) : x.cap ∈ (addD l x).map Der.cap := by
  unfold addD; split
  · rename_i h; exact has_iff.1 h
  · simp

/-! ### Gates -/
theorem gateGo_some {j s n : Int} : ∀ {l : List Der} {i : Nat}, 0 ≤ gateGo C j s n l i → ∃ k, k < l.length ∧ gateGo C j s n l i = ((i + k : Nat) : Int) ∧ (l.getD k default).cap.job = j ∧ (l.getD k default).cap.object = s ∧ (l.getD k default).cap.kind = 1 ∧ C.inc (l.getD k default).cap.auth n = true
  | [], i, h => by unfold gateGo at h; omega
  | y :: l, i, h => by
    unfold gateGo at h ⊢
    split at h
    · rename_i q
      rw [if_pos q]
      exact ⟨0, by simp, by simp, q.1, q.2.1, q.2.2.1, q.2.2.2⟩
    · rename_i q
      rw [if_neg q]
      obtain ⟨k, h1, h2, h3⟩ := gateGo_some h
      exact ⟨k + 1, by simpa using h1, by rw [h2]; congr 1; omega, by simpa using h3⟩
theorem gateGo_none {j s n : Int} : ∀ {l : List Der} {i : Nat}, ¬ 0 ≤ gateGo C j s n l i → ∀ y ∈ l, ¬ (y.cap.job = j ∧ y.cap.object = s ∧ y.cap.kind = 1 ∧ C.inc y.cap.auth n = true)
  | [], i, _, y, hy => by cases hy
  | z :: l, i, h, y, hy => by
    unfold gateGo at h
    split at h
    · omega
    · rename_i q
      rcases List.mem_cons.1 hy with rfl | hy
      · exact q
      · exact gateGo_none h y hy
theorem gate_some {j s n : Int} {l : List Der} (h : 0 ≤ gate C l j s n) : (gate C l j s n).toNat < l.length ∧ (l.getD (gate C l j s n).toNat default).cap.job = j ∧ (l.getD (gate C l j s n).toNat default).cap.object = s ∧ (l.getD (gate C l j s n).toNat default).cap.kind = 1 ∧ C.inc (l.getD (gate C l j s n).toNat default).cap.auth n = true := by
  obtain ⟨k, h1, h2, h3⟩ := gateGo_some C h
  have : (gate C l j s n).toNat = k := by unfold gate; rw [h2]; simp
  rw [this]; exact ⟨h1, h3⟩

/-! ### A derivation that holds in a list of others -/
structure Proved (l : List Der) (x : Der) : Prop where
  job : 0 ≤ x.cap.job ∧ x.cap.job < (C.J : Int)
  object : 0 ≤ x.cap.object ∧ x.cap.object < (C.O : Int)
  how : (x.kind = 0 ∧ x.source = 0 ∧ x.writer = 0 ∧ x.reader = 0 ∧ x.cap.kind = 1 ∧ x.cap.auth ≠ 0 ∧ x.cap.auth = C.au x.cap.job.toNat x.cap.object.toNat) ∨
    (x.kind = 1 ∧ x.writer = 0 ∧ x.reader = 0 ∧ x.cap.kind = 0 ∧ x.cap.auth = 0 ∧ ∃ y, 0 ≤ x.source ∧ l[x.source.toNat]? = some y ∧ y.cap.job = x.cap.job ∧ y.cap.object = x.cap.object ∧ C.chan y.cap 128 = true) ∨
    (x.kind = 2 ∧ ∃ y w r, 0 ≤ x.source ∧ 0 ≤ x.writer ∧ 0 ≤ x.reader ∧ l[x.source.toNat]? = some y ∧ l[x.writer.toNat]? = some w ∧ l[x.reader.toNat]? = some r ∧
      y.cap.job ≠ x.cap.job ∧ y.cap.object = x.cap.object ∧ y.cap.kind = x.cap.kind ∧ y.cap.auth = x.cap.auth ∧ w.cap.job = y.cap.job ∧ r.cap.job = x.cap.job ∧ w.cap.object = r.cap.object ∧ C.chan w.cap 128 = true ∧ C.chan r.cap 32 = true)
/-- Each derivation holds behind those before it, and derives something new. -/
inductive DOk : List Der → Prop
  | nil : DOk []
  | snoc {l : List Der} {x : Der} (h : DOk l) (hx : Proved C l x) (hn : x.cap ∉ l.map Der.cap) : DOk (l ++ [x])
theorem DOk.addD {l : List Der} {x : Der} (h : DOk C l) (hx : Proved C l x) : DOk C (addD l x) := by
  unfold C12.addD; split
  · exact h
  · rename_i q; exact .snoc h hx fun r => q (has_iff.2 r)
theorem DOk.nodup {l : List Der} (h : DOk C l) : (l.map Der.cap).Nodup := by
  induction h with
  | nil => simp
  | snoc h hx hn ih =>
    rw [List.map_append, List.nodup_append]
    refine ⟨ih, by simp, fun a ha b hb => ?_⟩
    simp only [List.map_cons, List.map_nil, List.mem_singleton] at hb
    subst hb
    exact fun e => hn (e ▸ ha)
theorem mem_get {l : List Der} {i : Nat} {y : Der} (h : l[i]? = some y) : y ∈ l := List.mem_of_getElem? h
theorem DOk.drv {l : List Der} (h : DOk C l) : ∀ x ∈ l, Drv C x.cap ∧ (0 ≤ x.cap.job ∧ x.cap.job < (C.J : Int)) ∧ (0 ≤ x.cap.object ∧ x.cap.object < (C.O : Int)) := by
  induction h with
  | nil => intro x hx; cases hx
  | @snoc l x h hx hn ih =>
    intro y hy
    rcases List.mem_append.1 hy with hy | hy
    · exact ih y hy
    · rw [List.mem_singleton] at hy; subst hy
      refine ⟨?_, hx.job, hx.object⟩
      rcases hx.how with ⟨_, _, _, _, h1, h2, h3⟩ | ⟨_, _, _, h1, h2, z, _, h3, h4, h5, h6⟩ | ⟨_, z, w, r, _, _, _, h1, h2, h3, h4, h5, h6, h7, h8, h9, h10, h11, h12⟩
      · have := Drv.seed (C := C) y.cap.job.toNat y.cap.object.toNat (by have := hx.job; omega) (by have := hx.object; omega) (by rw [← h3]; exact h2)
        rw [← h3] at this
        have e : y.cap = ⟨((y.cap.job.toNat : Nat) : Int), ((y.cap.object.toNat : Nat) : Int), 1, y.cap.auth⟩ := by
          rw [Cap.ext_iff']; have q1 := hx.job; have q2 := hx.object; exact ⟨by simp only; omega, by simp only; omega, h1, rfl⟩
        rw [e]; exact this
      · have := Drv.addr z.cap (ih z (mem_get h3)).1 h6
        have e : y.cap = ⟨z.cap.job, z.cap.object, 0, 0⟩ := by rw [Cap.ext_iff']; exact ⟨h4.symm, h5.symm, h1, h2⟩
        rw [e]; exact this
      · have := Drv.pass z.cap w.cap r.cap y.cap.job.toNat (by have := hx.job; omega) (ih z (mem_get h1)).1 (ih w (mem_get h2)).1 (ih r (mem_get h3)).1 h8 (by have := hx.job; omega) (by have := hx.job; omega) h10 h11 h12
        have e : y.cap = ⟨((y.cap.job.toNat : Nat) : Int), z.cap.object, z.cap.kind, z.cap.auth⟩ := by
          rw [Cap.ext_iff']; have := hx.job; simp only; exact ⟨by omega, h5.symm, h6.symm, h7.symm⟩
        rw [e]; exact this

/-! ### What is derived holds -/
theorem addrD_ok {l : List Der} (h : DOk C l) {i : Nat} (hi : i < l.length) : DOk C (addrD C l i) := by
  unfold addrD; split
  · rename_i q
    have hm : l[i]? = some (l.getD i default) := get_some hi
    obtain ⟨_, h2, h3⟩ := h.drv C _ (mem_get hm)
    exact h.addD C ⟨h2, h3, .inr (.inl ⟨rfl, rfl, rfl, rfl, rfl, l.getD i default, by simp, by simpa using hm, rfl, rfl, q⟩)⟩
  · exact h
theorem passGo_ok {l : List Der} (h : DOk C l) {i j : Nat} (hi : i < l.length) (hj : j < C.J) (hne : (j : Int) ≠ (l.getD i default).cap.job) : ∀ ss : List Nat, DOk C (passGo C l (l.getD i default).cap i j ss)
  | [] => h
  | s :: ss => by
    unfold passGo; split
    · rename_i q
      obtain ⟨q1, q2, q3⟩ := q
      have hm : l[i]? = some (l.getD i default) := get_some hi
      obtain ⟨w1, w2, w3, w4, w5⟩ := gate_some C q2
      obtain ⟨r1, r2, r3, r4, r5⟩ := gate_some C q3
      have hw : l[(gate C l (l.getD i default).cap.job (s : Int) 128).toNat]? = some (l.getD (gate C l (l.getD i default).cap.job (s : Int) 128).toNat default) := get_some w1
      have hr : l[(gate C l (j : Int) (s : Int) 32).toNat]? = some (l.getD (gate C l (j : Int) (s : Int) 32).toNat default) := get_some r1
      obtain ⟨_, _, h3⟩ := h.drv C _ (mem_get hm)
      refine h.addD C ⟨⟨by simp, by simp; omega⟩, h3, .inr (.inr ⟨rfl, l.getD i default, _, _, by simp, q2, q3, by simpa using hm, hw, hr, Ne.symm hne, rfl, rfl, rfl, w2, r2, w3.trans r3.symm, ?_, ?_⟩)⟩
      · unfold CC.chan; rw [w4, w3, q1, w5]; rfl
      · unfold CC.chan; rw [r4, r3, q1, r5]; rfl
    · exact passGo_ok h hi hj hne ss
theorem pass_ok {l : List Der} (h : DOk C l) {i j : Nat} (hi : i < l.length) (hj : j < C.J) (hne : (j : Int) ≠ (l.getD i default).cap.job) : DOk C (pass C l i j) := passGo_ok C h hi hj hne _
theorem jobsD_ok {i : Nat} : ∀ {js : List Nat} {l : List Der}, DOk C l → i < l.length → (∀ j ∈ js, j < C.J) → DOk C (jobsD C l i js)
  | [], l, h, _, _ => h
  | j :: js, l, h, hi, hj => by
    unfold jobsD
    split
    · exact jobsD_ok h hi fun k hk => hj k (List.mem_cons_of_mem _ hk)
    · rename_i q
      exact jobsD_ok (pass_ok C h hi (hj j (List.mem_cons_self ..)) q) (Nat.lt_of_lt_of_le hi (pre_len (pass_pre C l i j))) fun k hk => hj k (List.mem_cons_of_mem _ hk)
theorem stepD_ok {l : List Der} (h : DOk C l) {i : Nat} (hi : i < l.length) : DOk C (stepD C l i) :=
  jobsD_ok C (addrD_ok C h hi) (Nat.lt_of_lt_of_le hi (pre_len (addrD_pre C l i))) fun j hj => List.mem_range.1 hj
theorem roundGo_ok : ∀ {is : List Nat} {l : List Der}, DOk C l → (∀ i ∈ is, i < l.length) → DOk C (roundGo C l is)
  | [], l, h, _ => h
  | i :: is, l, h, hi => by
    unfold roundGo
    exact roundGo_ok (stepD_ok C h (hi i (List.mem_cons_self ..))) fun k hk => Nat.lt_of_lt_of_le (hi k (List.mem_cons_of_mem _ hk)) (pre_len (stepD_pre C l i))
theorem round_ok {l : List Der} (h : DOk C l) : DOk C (round C l) := roundGo_ok C h fun i hi => List.mem_range.1 hi
theorem seedJ_ok {j : Nat} (hj : j < C.J) : ∀ {ks : List Nat} {l : List Der}, DOk C l → (∀ k ∈ ks, k < C.O) → DOk C (seedJ C l j ks)
  | [], l, h, _ => h
  | k :: ks, l, h, hk => by
    unfold seedJ
    split
    · exact seedJ_ok hj h fun m hm => hk m (List.mem_cons_of_mem _ hm)
    · rename_i q
      have hk0 := hk k (List.mem_cons_self ..)
      refine seedJ_ok hj (h.addD C ⟨⟨by simp, by simp; omega⟩, ⟨by simp, by simp; omega⟩, .inl ⟨rfl, rfl, rfl, rfl, rfl, q, by simp⟩⟩) fun m hm => hk m (List.mem_cons_of_mem _ hm)
theorem seedsGo_ok : ∀ {js : List Nat} {l : List Der}, DOk C l → (∀ j ∈ js, j < C.J) → DOk C (seedsGo C l js)
  | [], l, h, _ => h
  | j :: js, l, h, hj => by
    unfold seedsGo
    exact seedsGo_ok (seedJ_ok C (hj j (List.mem_cons_self ..)) h fun k hk => List.mem_range.1 hk) fun k hk => hj k (List.mem_cons_of_mem _ hk)
theorem seeds_ok : DOk C (seeds C) := seedsGo_ok C .nil fun j hj => List.mem_range.1 hj

/-! ### All seeds are there -/
theorem seedJ_pre (j : Nat) : ∀ (ks : List Nat) (l : List Der), l <+: seedJ C l j ks
  | [], l => List.prefix_refl _
  | k :: ks, l => by
    unfold seedJ
    refine List.IsPrefix.trans ?_ (seedJ_pre j ks _)
    split
    · exact List.prefix_refl _
    · exact addD_pre ..
theorem seedsGo_pre : ∀ (js : List Nat) (l : List Der), l <+: seedsGo C l js
  | [], l => List.prefix_refl _
  | j :: js, l => (seedJ_pre C j _ l).trans (seedsGo_pre js _)
theorem seedJ_all {j : Nat} : ∀ {ks : List Nat} {l : List Der}, ∀ k ∈ ks, C.au j k ≠ 0 → (⟨(j : Int), (k : Int), 1, C.au j k⟩ : Cap) ∈ (seedJ C l j ks).map Der.cap
  | m :: ks, l, k, hk, h0 => by
    unfold seedJ
    rcases List.mem_cons.1 hk with rfl | hk
    · rw [if_neg h0]
      exact pre_mem (seedJ_pre C j ks _) (addD_mem l ⟨⟨(j : Int), (k : Int), 1, C.au j k⟩, 0, 0, 0, 0⟩)
    · exact seedJ_all k hk h0
theorem seedsGo_all : ∀ {js : List Nat} {l : List Der}, ∀ j ∈ js, ∀ k, k < C.O → C.au j k ≠ 0 → (⟨(j : Int), (k : Int), 1, C.au j k⟩ : Cap) ∈ (seedsGo C l js).map Der.cap
  | m :: js, l, j, hj, k, hk, h0 => by
    unfold seedsGo
    rcases List.mem_cons.1 hj with rfl | hj
    · exact pre_mem (seedsGo_pre C js _) (seedJ_all C k (List.mem_range.2 hk) h0)
    · exact seedsGo_all j hj k hk h0

/-! ### A round that brings nothing new -/
theorem addD_same {l : List Der} {x : Der} (h : addD l x = l) : x.cap ∈ l.map Der.cap := by
  have := addD_mem l x; rw [h] at this; exact this
theorem gate_any {j s n : Int} {l : List Der} {y : Cap} (hy : y ∈ l.map Der.cap) (h1 : y.job = j) (h2 : y.object = s) (h3 : y.kind = 1) (h4 : C.inc y.auth n = true) : 0 ≤ gate C l j s n := by
  obtain ⟨z, hz, rfl⟩ := List.mem_map.1 hy
  exact Classical.byContradiction fun q => gateGo_none C (i := 0) q z hz ⟨h1, h2, h3, h4⟩
theorem passGo_same {l : List Der} {x : Cap} {i j : Nat} : ∀ {ss : List Nat}, passGo C l x i j ss = l → (∃ s ∈ ss, C.sp (s : Int) = true ∧ 0 ≤ gate C l x.job (s : Int) 128 ∧ 0 ≤ gate C l (j : Int) (s : Int) 32) → (⟨(j : Int), x.object, x.kind, x.auth⟩ : Cap) ∈ l.map Der.cap
  | [], _, ⟨s, hs, _⟩ => by cases hs
  | t :: ss, h, ⟨s, hs, q⟩ => by
    unfold passGo at h
    split at h
    · exact addD_same h
    · rename_i r
      rcases List.mem_cons.1 hs with rfl | hs
      · exact absurd q r
      · exact passGo_same h ⟨s, hs, q⟩
theorem jobsD_same {i : Nat} : ∀ {js : List Nat} {l : List Der}, jobsD C l i js = l → ∀ j ∈ js, (j : Int) ≠ (l.getD i default).cap.job → pass C l i j = l
  | m :: js, l, h, j, hj, hne => by
    unfold jobsD at h
    have hp : ∀ m' : List Der, l <+: m' → jobsD C m' i js = l → m' = l := fun m' h1 h2 => pre_eq h1 (Nat.le_antisymm (by rw [← h2] ; exact pre_len (jobsD_pre C i js m')) (pre_len h1))
    split at h
    · rename_i q
      rcases List.mem_cons.1 hj with rfl | hj
      · exact absurd q hne
      · exact jobsD_same h j hj hne
    · rename_i q
      have e := hp _ (pass_pre C l i m) h
      rcases List.mem_cons.1 hj with rfl | hj
      · exact e
      · rw [e] at h; exact jobsD_same h j hj hne
theorem stepD_same {l : List Der} {i : Nat} (h : stepD C l i = l) : addrD C l i = l ∧ jobsD C l i (List.range C.J) = l := by
  have e : addrD C l i = l := pre_eq (addrD_pre C l i) (Nat.le_antisymm (by have := pre_len (jobsD_pre C i (List.range C.J) (addrD C l i)); unfold stepD at h; rw [h] at this; exact this) (pre_len (addrD_pre C l i)))
  unfold stepD at h; rw [e] at h; exact ⟨e, h⟩
theorem roundGo_same : ∀ {is : List Nat} {l : List Der}, roundGo C l is = l → ∀ i ∈ is, stepD C l i = l
  | m :: is, l, h, i, hi => by
    unfold roundGo at h
    have e : stepD C l m = l := pre_eq (stepD_pre C l m) (Nat.le_antisymm (by have := pre_len (roundGo_pre C is (stepD C l m)); rw [h] at this; exact this) (pre_len (stepD_pre C l m)))
    rcases List.mem_cons.1 hi with rfl | hi
    · exact e
    · rw [e] at h; exact roundGo_same h i hi

theorem closed_of {l : List Der} (hO : DOk C l) (hsp : ∀ o, C.sp o = true → 0 ≤ o ∧ o < (C.O : Int)) (hs : seeds C <+: l) (h : round C l = l) : Closed C (l.map Der.cap) := by
  have hst : ∀ i, i < l.length → stepD C l i = l := fun i hi => roundGo_same C h i (List.mem_range.2 hi)
  have hix : ∀ x ∈ l.map Der.cap, ∃ i, i < l.length ∧ (l.getD i default).cap = x := fun x hx => by
    obtain ⟨y, hy, rfl⟩ := List.mem_map.1 hx
    obtain ⟨i, hi, rfl⟩ := List.mem_iff_getElem.1 hy
    exact ⟨i, hi, by simp [List.getD_eq_getElem?_getD, hi]⟩
  refine ⟨fun j k hj hk h0 => pre_mem hs (seedsGo_all C j (List.mem_range.2 hj) k hk h0), fun x hx hc => ?_, fun x hx w hw r hr j hj h1 h2 h3 h4 h5 h6 => ?_⟩
  · obtain ⟨i, hi, rfl⟩ := hix x hx
    have e := (stepD_same C (hst i hi)).1
    unfold addrD at e
    rw [if_pos hc] at e
    exact addD_same e
  · obtain ⟨i, hi, rfl⟩ := hix x hx
    have e := jobsD_same C (stepD_same C (hst i hi)).2 j (List.mem_range.2 hj) h3
    unfold CC.chan at h5 h6
    simp only [Bool.and_eq_true, decide_eq_true_eq] at h5 h6
    obtain ⟨s0, s1⟩ := hsp _ h5.1.2
    refine passGo_same C e ⟨w.object.toNat, List.mem_range.2 (by omega), ?_⟩
    have ew : ((w.object.toNat : Nat) : Int) = w.object := by omega
    rw [ew]
    exact ⟨h5.1.2, gate_any C hw h1 rfl h5.1.1 h5.2, gate_any C hr h2 h4.symm h6.1.1 h6.2⟩

end Go.Proofs.YtbhgehhmjpipiaaGreat.C12
/- Chapter 12: the plain law of closures: at most so many, the end of the rounds, the reference's closure, the two the same. -/
set_option linter.unusedVariables false
set_option linter.unusedSimpArgs false
namespace Go.Proofs.YtbhgehhmjpipiaaGreat.C12

variable (C : CC)
/-! ### At most so many -/
theorem nodup_le : ∀ {l m : List Cap}, l.Nodup → (∀ x ∈ l, x ∈ m) → l.length ≤ m.length
  | [], m, _, _ => Nat.zero_le _
  | a :: l, m, h, hs => by
    obtain ⟨h1, h2⟩ := List.nodup_cons.1 h
    have ha := hs a (List.mem_cons_self ..)
    have := nodup_le (m := m.erase a) h2 fun x hx => (List.mem_erase_of_ne fun e => h1 (by subst e; exact hx)).2 (hs x (List.mem_cons_of_mem _ hx))
    rw [List.length_erase_of_mem ha] at this
    have := List.length_pos_of_mem ha
    simp only [List.length_cons]; omega
def univJ (C : CC) (j k : Nat) : List Cap := ⟨(j : Int), (k : Int), 0, 0⟩ :: (List.range C.J).map fun m => ⟨(j : Int), (k : Int), 1, C.au m k⟩
def univ (C : CC) : List Cap := (List.range C.J).flatMap fun j => (List.range C.O).flatMap fun k => univJ C j k
theorem len_flatMap {α β : Type} {f : α → List β} {n : Nat} : ∀ {l : List α}, (∀ x ∈ l, (f x).length = n) → (l.flatMap f).length = l.length * n
  | [], _ => by simp
  | x :: l, h => by
    rw [List.flatMap_cons, List.length_append, h x (List.mem_cons_self ..), len_flatMap fun y hy => h y (List.mem_cons_of_mem _ hy), List.length_cons, Nat.succ_mul]; omega
theorem univ_len : (univ C).length = C.J * (C.O * (C.J + 1)) := by
  unfold univ
  rw [len_flatMap (n := C.O * (C.J + 1)) fun j _ => by rw [len_flatMap (n := C.J + 1) fun k _ => by simp [univJ]]; simp]
  simp
theorem Drv.form {x : Cap} (h : Drv C x) (hsp : ∀ o, C.sp o = true → 0 ≤ o ∧ o < (C.O : Int)) : (0 ≤ x.job ∧ x.job < (C.J : Int)) ∧ (0 ≤ x.object ∧ x.object < (C.O : Int)) ∧ ((x.kind = 0 ∧ x.auth = 0) ∨ (x.kind = 1 ∧ ∃ m, m < C.J ∧ x.auth = C.au m x.object.toNat)) := by
  induction h with
  | seed j k hj hk h => exact ⟨⟨by simp, by simp; omega⟩, ⟨by simp, by simp; omega⟩, .inr ⟨rfl, j, hj, by simp⟩⟩
  | addr x hx h ih => exact ⟨ih.1, ih.2.1, .inl ⟨rfl, rfl⟩⟩
  | pass x w r j hj hx hw hr h1 h2 h3 h4 h5 h6 i1 i2 i3 => exact ⟨⟨by simp, by simp; omega⟩, i1.2.1, i1.2.2⟩
theorem Drv.univ {x : Cap} (h : Drv C x) (hsp : ∀ o, C.sp o = true → 0 ≤ o ∧ o < (C.O : Int)) : x ∈ univ C := by
  obtain ⟨⟨h1, h2⟩, ⟨h3, h4⟩, h5⟩ := h.form C hsp
  refine List.mem_flatMap.2 ⟨x.job.toNat, List.mem_range.2 (by omega), List.mem_flatMap.2 ⟨x.object.toNat, List.mem_range.2 (by omega), ?_⟩⟩
  have e1 : ((x.job.toNat : Nat) : Int) = x.job := by omega
  have e2 : ((x.object.toNat : Nat) : Int) = x.object := by omega
  unfold univJ
  rw [e1, e2]
  rcases h5 with ⟨q1, q2⟩ | ⟨q1, m, q2, q3⟩
  · refine List.mem_cons.2 (.inl ?_)
    rw [Cap.ext_iff']; exact ⟨rfl, rfl, q1, q2⟩
  · refine List.mem_cons.2 (.inr (List.mem_map.2 ⟨m, List.mem_range.2 q2, ?_⟩))
    rw [Cap.ext_iff']; exact ⟨rfl, rfl, q1.symm, q3.symm⟩
/-- The bounds of a case that is right. -/
structure CC.Fit (C : CC) : Prop where
  J : C.J ≤ 3
  O : C.O ≤ 5
  sp : ∀ o, C.sp o = true → 0 ≤ o ∧ o < (C.O : Int)
theorem CC.Fit.univ {C : CC} (h : C.Fit) : (univ C).length ≤ 60 := by
  rw [univ_len]
  have h1 := h.J; have h2 := h.O
  have : C.O * (C.J + 1) ≤ 5 * 4 := Nat.mul_le_mul h2 (by omega)
  exact Nat.le_trans (Nat.mul_le_mul h1 this) (by decide)
theorem CC.Fit.len {C : CC} (h : C.Fit) {l : List Der} (hO : DOk C l) : l.length ≤ 60 := by
  have := nodup_le hO.nodup (m := C12.univ C) fun x hx => by
    obtain ⟨y, hy, rfl⟩ := List.mem_map.1 hx
    exact (hO.drv C y hy).1.univ C h.sp
  rw [List.length_map] at this
  exact Nat.le_trans this h.univ

/-! ### The end of the rounds -/
def deriveN (C : CC) : Nat → List Der → List Der
  | 0, l => l
  | n + 1, l => if (round C l).length = l.length then l else deriveN C n (round C l)
def derive (C : CC) : List Der := deriveN C 60 (seeds C)
theorem deriveN_stop {l : List Der} (h : (round C l).length = l.length) : ∀ n, deriveN C n l = l
  | 0 => rfl
  | n + 1 => by unfold deriveN; rw [if_pos h]
theorem deriveN_go {C : CC} (hF : C.Fit) {l : List Der} (hO : DOk C l) (h : ¬ (round C l).length = l.length) {n : Nat} (hn : 60 - l.length ≤ n) : ∃ m, n = m + 1 ∧ deriveN C n l = deriveN C m (round C l) ∧ 60 - (round C l).length ≤ m := by
  have h1 := hF.len (round_ok C hO)
  have h2 := pre_len (round_pre C l)
  cases n with
  | zero => omega
  | succ n => exact ⟨n, rfl, by rw [deriveN, if_neg h], by omega⟩
structure Done (C : CC) (l : List Der) : Prop where
  ok : DOk C l
  seed : seeds C <+: l
  stop : round C l = l
theorem deriveN_done {C : CC} (hF : C.Fit) : ∀ {n : Nat} {l : List Der}, DOk C l → seeds C <+: l → 60 - l.length ≤ n → Done C (deriveN C n l)
  | 0, l, h, hs, hn => by
    have h1 := hF.len (round_ok C h)
    have h2 := pre_len (round_pre C l)
    have h3 : 60 ≤ l.length := by omega
    have h4 : (round C l).length = l.length := by omega
    exact ⟨h, hs, pre_eq (round_pre C l) h4⟩
  | n + 1, l, h, hs, hn => by
    unfold deriveN
    split
    · rename_i q; exact ⟨h, hs, pre_eq (round_pre C l) q⟩
    · rename_i q
      have h2 := pre_len (round_pre C l)
      exact deriveN_done hF (round_ok C h) (hs.trans (round_pre C l)) (by omega)
theorem derive_done {C : CC} (hF : C.Fit) : Done C (derive C) := deriveN_done hF (seeds_ok C) (List.prefix_refl _) (by omega)
theorem Done.closed {C : CC} (hF : C.Fit) {l : List Der} (h : Done C l) : Closed C (l.map Der.cap) := closed_of C h.ok hF.sp h.seed h.stop
theorem Done.drv {C : CC} {l : List Der} (h : Done C l) : ∀ x ∈ l.map Der.cap, Drv C x := fun x hx => by
  obtain ⟨y, hy, rfl⟩ := List.mem_map.1 hx
  exact (h.ok.drv C y hy).1

/-! ### The reference's closure -/
def rSeedJ (C : CC) (l : List Cap) (j : Nat) : List Nat → List Cap
  | [] => l
  | k :: ks => rSeedJ C (if C.au j k = 0 then l else put l ⟨(j : Int), (k : Int), 1, C.au j k⟩) j ks
def rSeedsGo (C : CC) (l : List Cap) : List Nat → List Cap
  | [] => l
  | j :: js => rSeedsGo C (rSeedJ C l j (List.range C.O)) js
def rSeeds (C : CC) : List Cap := rSeedsGo C [] (List.range C.J)
def passes (C : CC) (l : List Cap) (a b : Int) : Bool := l.any fun w => l.any fun r => decide (w.job = a) && decide (r.job = b) && decide (w.object = r.object) && C.chan w 128 && C.chan r 32
def rJobs (C : CC) (l : List Cap) (x : Cap) (m : List Cap) : List Nat → List Cap
  | [] => m
  | j :: js => rJobs C l x (if (j : Int) ≠ x.job ∧ passes C l x.job (j : Int) = true then put m ⟨(j : Int), x.object, x.kind, x.auth⟩ else m) js
def rStep (C : CC) (l m : List Cap) (x : Cap) : List Cap := rJobs C l x (if C.chan x 128 = true then put m ⟨x.job, x.object, 0, 0⟩ else m) (List.range C.J)
def rNextGo (C : CC) (l m : List Cap) : List Cap → List Cap
  | [] => m
  | x :: xs => rNextGo C l (rStep C l m x) xs
def rNext (C : CC) (l : List Cap) : List Cap := rNextGo C l l l

/-- A list that holds more, or is the same. -/
structure Ext (l m : List Cap) : Prop where
  len : l.length ≤ m.length
  same : m.length = l.length → m = l
  mem : ∀ x ∈ l, x ∈ m
theorem Ext.refl (l : List Cap) : Ext l l := ⟨Nat.le_refl _, fun _ => rfl, fun _ h => h⟩
theorem Ext.trans {l m n : List Cap} (h : Ext l m) (k : Ext m n) : Ext l n := by
  refine ⟨Nat.le_trans h.len k.len, fun q => ?_, fun x hx => k.mem x (h.mem x hx)⟩
  have h1 := h.len; have h2 := k.len
  rw [k.same (by omega), h.same (by omega)]
theorem Ext.of_put (l : List Cap) (x : Cap) : Ext l (put l x) := by
  refine ⟨put_len x l, fun q => ?_, fun y hy => (put_mem x y l).2 (.inr hy)⟩
  unfold put at q ⊢
  split
  · rfl
  · rename_i h
    rw [if_neg h, putGo_len] at q; omega
theorem rJobs_ext (l : List Cap) (x : Cap) : ∀ (js : List Nat) (m : List Cap), Ext m (rJobs C l x m js)
  | [], m => .refl m
  | j :: js, m => by
    unfold rJobs
    refine Ext.trans ?_ (rJobs_ext l x js _)
    split
    · exact .of_put ..
    · exact .refl _
theorem rStep_ext (l m : List Cap) (x : Cap) : Ext m (rStep C l m x) := by
  unfold rStep
  refine Ext.trans ?_ (rJobs_ext C l x _ _)
  split
  · exact .of_put ..
  · exact .refl _
theorem rNextGo_ext (l : List Cap) : ∀ (xs m : List Cap), Ext m (rNextGo C l m xs)
  | [], m => .refl m
  | x :: xs, m => (rStep_ext C l m x).trans (rNextGo_ext l xs _)
theorem rNext_ext (l : List Cap) : Ext l (rNext C l) := rNextGo_ext C l l l

/-- A list in order, all of it derived. -/
structure ROk (C : CC) (m : List Cap) : Prop where
  sorted : Sorted m
  drv : ∀ x ∈ m, Drv C x
theorem ROk.put {m : List Cap} (h : ROk C m) {x : Cap} (hx : Drv C x) : ROk C (put m x) :=
  ⟨put_sorted h.sorted, fun y hy => by rcases (put_mem x y m).1 hy with rfl | q; exact hx; exact h.drv y q⟩
theorem passes_some {l : List Cap} {a b : Int} (h : passes C l a b = true) : ∃ w ∈ l, ∃ r ∈ l, w.job = a ∧ r.job = b ∧ w.object = r.object ∧ C.chan w 128 = true ∧ C.chan r 32 = true := by
  unfold passes at h
  obtain ⟨w, hw, h2⟩ := List.any_eq_true.1 h
  obtain ⟨r, hr, h3⟩ := List.any_eq_true.1 h2
  simp only [Bool.and_eq_true, decide_eq_true_eq] at h3
  exact ⟨w, hw, r, hr, h3.1.1.1.1, h3.1.1.1.2, h3.1.1.2, h3.1.2, h3.2⟩
theorem passes_of {l : List Cap} {w r : Cap} (hw : w ∈ l) (hr : r ∈ l) (h : w.object = r.object) (h5 : C.chan w 128 = true) (h6 : C.chan r 32 = true) : passes C l w.job r.job = true := by
  unfold passes
  exact List.any_eq_true.2 ⟨w, hw, List.any_eq_true.2 ⟨r, hr, by simp [h, h5, h6]⟩⟩
theorem rJobs_ok {l : List Cap} (hl : ∀ x ∈ l, Drv C x) {x : Cap} (hx : Drv C x) : ∀ {js : List Nat} {m : List Cap}, ROk C m → (∀ j ∈ js, j < C.J) → ROk C (rJobs C l x m js)
  | [], m, h, _ => h
  | j :: js, m, h, hj => by
    unfold rJobs
    refine rJobs_ok hl hx ?_ fun k hk => hj k (List.mem_cons_of_mem _ hk)
    split
    · rename_i q
      obtain ⟨w, hw, r, hr, q1, q2, q3, q4, q5⟩ := passes_some C q.2
      exact h.put C (Drv.pass x w r j (hj j (List.mem_cons_self ..)) hx (hl w hw) (hl r hr) q1 q2 q.1 q3 q4 q5)
    · exact h
theorem rNextGo_ok {l : List Cap} (hl : ∀ x ∈ l, Drv C x) : ∀ {xs m : List Cap}, (∀ x ∈ xs, Drv C x) → ROk C m → ROk C (rNextGo C l m xs)
  | [], m, _, h => h
  | x :: xs, m, hx, h => by
    unfold rNextGo rStep
    have hd := hx x (List.mem_cons_self ..)
    refine rNextGo_ok hl (fun y hy => hx y (List.mem_cons_of_mem _ hy)) (rJobs_ok C hl hd ?_ fun j hj => List.mem_range.1 hj)
    split
    · rename_i q; exact h.put C (Drv.addr x hd q)
    · exact h
theorem rNext_ok {l : List Cap} (h : ROk C l) : ROk C (rNext C l) := rNextGo_ok C h.drv h.drv h
theorem rSeedJ_ok {j : Nat} (hj : j < C.J) : ∀ {ks : List Nat} {m : List Cap}, ROk C m → (∀ k ∈ ks, k < C.O) → ROk C (rSeedJ C m j ks)
  | [], m, h, _ => h
  | k :: ks, m, h, hk => by
    unfold rSeedJ
    refine rSeedJ_ok hj ?_ fun i hi => hk i (List.mem_cons_of_mem _ hi)
    split
    · exact h
    · rename_i q; exact h.put C (Drv.seed j k hj (hk k (List.mem_cons_self ..)) q)
theorem rSeedsGo_ok : ∀ {js : List Nat} {m : List Cap}, ROk C m → (∀ j ∈ js, j < C.J) → ROk C (rSeedsGo C m js)
  | [], m, h, _ => h
  | j :: js, m, h, hj => by
    unfold rSeedsGo
    exact rSeedsGo_ok (rSeedJ_ok C (hj j (List.mem_cons_self ..)) h fun k hk => List.mem_range.1 hk) fun i hi => hj i (List.mem_cons_of_mem _ hi)
theorem rSeeds_ok : ROk C (rSeeds C) := rSeedsGo_ok C ⟨by simp [Sorted], fun x hx => by cases hx⟩ fun j hj => List.mem_range.1 hj
theorem rSeedJ_ext (j : Nat) : ∀ (ks : List Nat) (m : List Cap), Ext m (rSeedJ C m j ks)
  | [], m => .refl m
  | k :: ks, m => by
    unfold rSeedJ
    refine Ext.trans ?_ (rSeedJ_ext j ks _)
    split
    · exact .refl _
    · exact .of_put ..
theorem rSeedsGo_ext : ∀ (js : List Nat) (m : List Cap), Ext m (rSeedsGo C m js)
  | [], m => .refl m
  | j :: js, m => (rSeedJ_ext C j _ m).trans (rSeedsGo_ext js _)
theorem rSeedJ_all {j : Nat} : ∀ {ks : List Nat} {m : List Cap}, ∀ k ∈ ks, C.au j k ≠ 0 → (⟨(j : Int), (k : Int), 1, C.au j k⟩ : Cap) ∈ rSeedJ C m j ks
  | i :: ks, m, k, hk, h0 => by
    unfold rSeedJ
    rcases List.mem_cons.1 hk with rfl | hk
    · rw [if_neg h0]
      exact (rSeedJ_ext C j ks _).mem _ ((put_mem _ _ _).2 (.inl rfl))
    · exact rSeedJ_all k hk h0
theorem rSeedsGo_all : ∀ {js : List Nat} {m : List Cap}, ∀ j ∈ js, ∀ k, k < C.O → C.au j k ≠ 0 → (⟨(j : Int), (k : Int), 1, C.au j k⟩ : Cap) ∈ rSeedsGo C m js
  | i :: js, m, j, hj, k, hk, h0 => by
    unfold rSeedsGo
    rcases List.mem_cons.1 hj with rfl | hj
    · exact (rSeedsGo_ext C js _).mem _ (rSeedJ_all C k (List.mem_range.2 hk) h0)
    · exact rSeedsGo_all j hj k hk h0
theorem put_in {m : List Cap} {x : Cap} (h : put m x = m) : x ∈ m := by
  have := (put_mem x x m).2 (.inl rfl); rw [h] at this; exact this
theorem rJobs_same {l : List Cap} {x : Cap} : ∀ {js : List Nat} {m : List Cap}, rJobs C l x m js = m → ∀ j ∈ js, (j : Int) ≠ x.job → passes C l x.job (j : Int) = true → (⟨(j : Int), x.object, x.kind, x.auth⟩ : Cap) ∈ m
  | i :: js, m, h, j, hj, q1, q2 => by
    unfold rJobs at h
    have e : (if (i : Int) ≠ x.job ∧ passes C l x.job (i : Int) = true then put m ⟨(i : Int), x.object, x.kind, x.auth⟩ else m) = m := by
      have e1 := rJobs_ext C l x js (if (i : Int) ≠ x.job ∧ passes C l x.job (i : Int) = true then put m ⟨(i : Int), x.object, x.kind, x.auth⟩ else m)
      rw [h] at e1
      have e2 : Ext m (if (i : Int) ≠ x.job ∧ passes C l x.job (i : Int) = true then put m ⟨(i : Int), x.object, x.kind, x.auth⟩ else m) := by
        split
        · exact .of_put ..
        · exact .refl _
      exact e2.same (Nat.le_antisymm e1.len e2.len)
    rcases List.mem_cons.1 hj with rfl | hj
    · rw [if_pos ⟨q1, q2⟩] at e
      exact put_in e
    · rw [e] at h; exact rJobs_same h j hj q1 q2
theorem rNextGo_same {l : List Cap} : ∀ {xs m : List Cap}, rNextGo C l m xs = m → ∀ x ∈ xs, rStep C l m x = m
  | y :: xs, m, h, x, hx => by
    unfold rNextGo at h
    have e : rStep C l m y = m := by
      have e1 := rNextGo_ext C l xs (rStep C l m y)
      rw [h] at e1
      have e2 := rStep_ext C l m y
      exact e2.same (Nat.le_antisymm e1.len e2.len)
    rcases List.mem_cons.1 hx with rfl | hx
    · exact e
    · rw [e] at h; exact rNextGo_same h x hx
theorem rStep_same {l m : List Cap} {x : Cap} (h : rStep C l m x = m) : (C.chan x 128 = true → (⟨x.job, x.object, 0, 0⟩ : Cap) ∈ m) ∧ rJobs C l x m (List.range C.J) = m := by
  unfold rStep at h
  have e : (if C.chan x 128 = true then put m ⟨x.job, x.object, 0, 0⟩ else m) = m := by
    have e1 := rJobs_ext C l x (List.range C.J) (if C.chan x 128 = true then put m ⟨x.job, x.object, 0, 0⟩ else m)
    rw [h] at e1
    have e2 : Ext m (if C.chan x 128 = true then put m ⟨x.job, x.object, 0, 0⟩ else m) := by
      split
      · exact .of_put ..
      · exact .refl _
    exact e2.same (Nat.le_antisymm e1.len e2.len)
  refine ⟨fun q => ?_, by rw [e] at h; exact h⟩
  rw [if_pos q] at e
  exact put_in e
theorem rClosed_of {l : List Cap} (hs : Ext (rSeeds C) l) (h : rNext C l = l) : Closed C l := by
  have hst : ∀ x ∈ l, rStep C l l x = l := rNextGo_same C h
  refine ⟨fun j k hj hk h0 => hs.mem _ (rSeedsGo_all C j (List.mem_range.2 hj) k hk h0), fun x hx hc => (rStep_same C (hst x hx)).1 hc, fun x hx w hw r hr j hj h1 h2 h3 h4 h5 h6 => ?_⟩
  refine rJobs_same C (rStep_same C (hst x hx)).2 j (List.mem_range.2 hj) h3 ?_
  rw [← h1, ← h2]; exact passes_of C hw hr h4 h5 h6
def rClosureN (C : CC) : Nat → List Cap → List Cap
  | 0, l => l
  | n + 1, l => if (rNext C l).length = l.length then l else rClosureN C n (rNext C l)
def rClosure (C : CC) : List Cap := rClosureN C 60 (rSeeds C)
theorem sorted_nodup {l : List Cap} (h : Sorted l) : l.Nodup := by
  refine List.Pairwise.imp (fun {a b} q e => ?_) h
  subst e; rw [Cap.lt_irrefl] at q; cases q
theorem CC.Fit.rlen {C : CC} (h : C.Fit) {l : List Cap} (hO : ROk C l) : l.length ≤ 60 :=
  Nat.le_trans (nodup_le (sorted_nodup hO.sorted) (m := C12.univ C) fun x hx => (hO.drv x hx).univ C h.sp) h.univ
theorem rClosureN_stop {l : List Cap} (h : (rNext C l).length = l.length) : ∀ n, rClosureN C n l = l
  | 0 => rfl
  | n + 1 => by unfold rClosureN; rw [if_pos h]
theorem rClosureN_go {C : CC} (hF : C.Fit) {l : List Cap} (hO : ROk C l) (h : ¬ (rNext C l).length = l.length) {n : Nat} (hn : 60 - l.length ≤ n) : ∃ m, n = m + 1 ∧ rClosureN C n l = rClosureN C m (rNext C l) ∧ 60 - (rNext C l).length ≤ m := by
  have h1 := hF.rlen (rNext_ok C hO)
  have h2 := (rNext_ext C l).len
  cases n with
  | zero => omega
  | succ n => exact ⟨n, rfl, by rw [rClosureN, if_neg h], by omega⟩
structure RDone (C : CC) (l : List Cap) : Prop where
  ok : ROk C l
  seed : Ext (rSeeds C) l
  stop : rNext C l = l
theorem rClosureN_done {C : CC} (hF : C.Fit) : ∀ {n : Nat} {l : List Cap}, ROk C l → Ext (rSeeds C) l → 60 - l.length ≤ n → RDone C (rClosureN C n l)
  | 0, l, h, hs, hn => by
    have h1 := hF.rlen (rNext_ok C h)
    have h2 := (rNext_ext C l).len
    exact ⟨h, hs, (rNext_ext C l).same (by have := hF.rlen h; omega)⟩
  | n + 1, l, h, hs, hn => by
    unfold rClosureN
    split
    · rename_i q; exact ⟨h, hs, (rNext_ext C l).same q⟩
    · rename_i q
      have h2 := (rNext_ext C l).len
      exact rClosureN_done hF (rNext_ok C h) (hs.trans (rNext_ext C l)) (by omega)
theorem rClosure_done {C : CC} (hF : C.Fit) : RDone C (rClosure C) := rClosureN_done hF (rSeeds_ok C) (.refl _) (by omega)

/-- THE TWO ARE THE SAME: whatever order the sort leaves. -/
theorem closure_same {C : CC} (hF : C.Fit) {l : List Cap} (hp : ∀ x, x ∈ l ↔ x ∈ (derive C).map Der.cap) (hs : l.Pairwise fun a b => b.lt a = false) : compact l = rClosure C := by
  have D := derive_done hF
  have R := rClosure_done hF
  refine Sorted.unique (compact_sorted hs) R.ok.sorted fun x => ?_
  rw [compact_mem, hp]
  exact closed_same C (D.closed hF) D.drv (rClosed_of C R.seed R.stop) R.ok.drv x

end Go.Proofs.YtbhgehhmjpipiaaGreat.C12
/- Chapter 12: plain laws of tagged storage: pointers in bytes, quadwords, what a write leaves. -/
set_option linter.unusedVariables false
set_option linter.unusedSimpArgs false
namespace Go.Proofs.YtbhgehhmjpipiaaGreat.C12

structure Ptr where
  kind : Int
  seg : Int
  off : Int
  auth : Int
deriving DecidableEq, Inhabited
structure Stg where
  bytes : ByteArray
  tags : List Bool
deriving Inhabited
theorem Stg.ext' {a b : Stg} (h1 : a.bytes = b.bytes) (h2 : a.tags = b.tags) : a = b := by
  cases a; cases b; simp only at h1 h2; subst h1 h2; rfl

/-! ### Numbers in bytes -/
/-- The number in bytes, the highest one first. -/
def bigGo : Int → List UInt8 → Int
  | n, [] => n
  | n, b :: l => bigGo (n * 256 + (b.toNat : Int)) l
def bigL (l : List UInt8) : Int := bigGo 0 l
theorem bigGo_snoc : ∀ (l : List UInt8) (n : Int) (b : UInt8), bigGo n (l ++ [b]) = bigGo n l * 256 + (b.toNat : Int)
  | [], n, b => rfl
  | a :: l, n, b => by simp only [List.cons_append, bigGo, bigGo_snoc l]
theorem bigGo_rng : ∀ (l : List UInt8) (n k : Int), 0 ≤ n → n < k → 0 ≤ bigGo n l ∧ bigGo n l < k * 256 ^ l.length
  | [], n, k, h0, h => by simp [bigGo]; omega
  | a :: l, n, k, h0, h => by
    have ha : a.toNat < 256 := a.toNat_lt
    have := bigGo_rng l (n * 256 + (a.toNat : Int)) (k * 256) (by omega) (by omega)
    simp only [bigGo, List.length_cons]
    have e : k * 256 ^ (l.length + 1) = k * 256 * 256 ^ l.length := by rw [Int.pow_succ, Int.mul_assoc, Int.mul_comm 256]
    rw [e]; exact this
theorem bigL_rng (l : List UInt8) : 0 ≤ bigL l ∧ bigL l < 256 ^ l.length := by
  have := bigGo_rng l 0 1 (by decide) (by decide)
  rwa [Int.one_mul] at this
/-- The lowest n bytes of a number, the highest one first. -/
def bigB (x : Int) : Nat → List UInt8
  | 0 => []
  | n + 1 => bigB (x / 256) n ++ [UInt8.ofNat (x % 256).toNat]
theorem bigB_len : ∀ (n : Nat) (x : Int), (bigB x n).length = n
  | 0, _ => rfl
  | n + 1, x => by simp [bigB, bigB_len n]
theorem bigL_bigB : ∀ (n : Nat) (x : Int), 0 ≤ x → x < 256 ^ n → bigL (bigB x n) = x
  | 0, x, h0, h => by simp at h; simp [bigB, bigL, bigGo]; omega
  | n + 1, x, h0, h => by
    have h1 : x / 256 < 256 ^ n := by
      rw [Int.pow_succ] at h
      exact Int.ediv_lt_of_lt_mul (by decide) h
    have ih := bigL_bigB n (x / 256) (by omega) h1
    unfold bigL at ih ⊢
    rw [bigB, bigGo_snoc, ih]
    have : (UInt8.ofNat (x % 256).toNat).toNat = (x % 256).toNat := by
      rw [UInt8.toNat_ofNat']
      exact Nat.mod_eq_of_lt (by omega)
    rw [this]; omega

/-! ### Pointers in bytes -/
/-- The error of a pointer. -/
def ptrE (p : Ptr) : Int := if ¬ (0 ≤ p.kind ∧ p.kind ≤ 2) then 4 else if ¬ (0 ≤ p.seg ∧ p.seg ≤ 1099511627775) ∨ ¬ (0 ≤ p.off ∧ p.off ≤ 16777215) ∨ ¬ (0 ≤ p.auth ∧ p.auth ≤ 1023) then 3 else if p.kind ≠ 1 ∧ p.auth ≠ 0 then 5 else 0
theorem ptrE_ok {p : Ptr} : ptrE p = 0 ↔ (0 ≤ p.kind ∧ p.kind ≤ 2) ∧ (0 ≤ p.seg ∧ p.seg ≤ 1099511627775) ∧ (0 ≤ p.off ∧ p.off ≤ 16777215) ∧ (0 ≤ p.auth ∧ p.auth ≤ 1023) ∧ (p.kind = 1 ∨ p.auth = 0) := by
  unfold ptrE
  constructor
  · intro h
    split at h
    · cases h
    · split at h
      · cases h
      · split at h
        · cases h
        · omega
  · rintro ⟨h1, h2, h3, h4, h5⟩
    rw [if_neg (by omega), if_neg (by omega), if_neg (by omega)]
def ptrOfL (l : List UInt8) : Ptr := ⟨((l.getD 0 0).toNat : Int), bigL ((l.drop 4).take 6), bigL ((l.drop 10).take 6), bigL ((l.drop 2).take 2)⟩
def ptrInL (l : List UInt8) : Ptr × Int := if ¬ l.length = 16 then (⟨0, 0, 0, 0⟩, 18) else if ¬ ((l.getD 1 0).toNat : Int) = 0 then (⟨0, 0, 0, 0⟩, 5) else if ¬ ptrE (ptrOfL l) = 0 then (⟨0, 0, 0, 0⟩, ptrE (ptrOfL l)) else (ptrOfL l, 0)
def ptrL (p : Ptr) : List UInt8 := [UInt8.ofNat p.kind.toNat, 0] ++ bigB p.auth 2 ++ bigB p.seg 6 ++ bigB p.off 6
theorem ptrL_len (p : Ptr) : (ptrL p).length = 16 := by simp [ptrL, bigB_len]
theorem take_mid {α : Type} {a b c : List α} {n k : Nat} (h1 : a.length = n) (h2 : b.length = k) : ((a ++ b ++ c).drop n).take k = b := by
  subst h1 h2
  rw [List.append_assoc, List.drop_left, List.take_left]
theorem ptrInL_ptrL {p : Ptr} (h : ptrE p = 0) : ptrInL (ptrL p) = (p, 0) := by
  obtain ⟨h1, h2, h3, h4, h5⟩ := ptrE_ok.1 h
  have e0 : ((ptrL p).getD 0 0).toNat = p.kind.toNat := by
    have : (ptrL p).getD 0 0 = UInt8.ofNat p.kind.toNat := rfl
    rw [this, UInt8.toNat_ofNat']
    exact Nat.mod_eq_of_lt (by omega)
  have e1 : ((ptrL p).getD 1 0).toNat = 0 := rfl
  have d2 : ((ptrL p).drop 2).take 2 = bigB p.auth 2 := by
    have := take_mid (a := [UInt8.ofNat p.kind.toNat, 0]) (b := bigB p.auth 2) (c := bigB p.seg 6 ++ bigB p.off 6) (n := 2) (k := 2) rfl (bigB_len ..)
    rw [← this]; simp [ptrL]
  have d4 : ((ptrL p).drop 4).take 6 = bigB p.seg 6 := by
    have := take_mid (a := [UInt8.ofNat p.kind.toNat, 0] ++ bigB p.auth 2) (b := bigB p.seg 6) (c := bigB p.off 6) (n := 4) (k := 6) (by simp [bigB_len]) (bigB_len ..)
    rw [← this]; simp [ptrL]
  have d10 : ((ptrL p).drop 10).take 6 = bigB p.off 6 := by
    have := take_mid (a := [UInt8.ofNat p.kind.toNat, 0] ++ bigB p.auth 2 ++ bigB p.seg 6) (b := bigB p.off 6) (c := []) (n := 10) (k := 6) (by simp [bigB_len]) (bigB_len ..)
    rw [← this]; simp [ptrL]
  have ep : ptrOfL (ptrL p) = p := by
    unfold ptrOfL
    rw [e0, d2, d4, d10, bigL_bigB 2 p.auth (by omega) (by omega), bigL_bigB 6 p.seg (by omega) (by omega), bigL_bigB 6 p.off (by omega) (by omega)]
    obtain ⟨a, b, c, d⟩ := p
    simp only at *
    rw [Int.toNat_of_nonneg h1.1]
  unfold ptrInL
  rw [if_neg (not_not_intro (ptrL_len p)), e1, if_neg (by decide), ep, if_neg (not_not_intro h)]

/-! ### Bytes -/
def toL (b : ByteArray) : List UInt8 := b.data.toList
theorem toL_inj {a b : ByteArray} (h : toL a = toL b) : a = b := ByteArray.ext (Array.toList_inj.1 h)
theorem toL_len (b : ByteArray) : (toL b).length = b.size := rfl
theorem toL_extract (b : ByteArray) (i j : Nat) : toL (b.extract i j) = ((toL b).drop i).take (j - i) := by
  unfold toL
  rw [ByteArray.data_extract, Array.toList_extract, List.extract_eq_take_drop]
theorem toL_append (a b : ByteArray) : toL (a ++ b) = toL a ++ toL b := by simp [toL, ByteArray.data_append]
def ofL (l : List UInt8) : ByteArray := ⟨l.toArray⟩
theorem toL_ofL (l : List UInt8) : toL (ofL l) = l := rfl
theorem ofL_size (l : List UInt8) : (ofL l).size = l.length := by simp [ofL, ByteArray.size]
def patch (b : ByteArray) (at' : Nat) (d : ByteArray) : ByteArray := b.extract 0 at' ++ d ++ b.extract (at' + d.size) b.size
theorem toL_patch (b : ByteArray) (a : Nat) (d : ByteArray) : toL (patch b a d) = (toL b).take a ++ toL d ++ (toL b).drop (a + d.size) := by
  unfold patch
  rw [toL_append, toL_append, toL_extract, toL_extract, List.drop_zero, Nat.sub_zero]
  congr 1
  rw [List.take_of_length_le]
  rw [List.length_drop, toL_len]; omega
theorem patch_size {b : ByteArray} {a : Nat} {d : ByteArray} (h : a + d.size ≤ b.size) : (patch b a d).size = b.size := by
  rw [← toL_len, toL_patch]
  simp only [List.length_append, List.length_take, List.length_drop, toL_len]; omega
/-- The bytes of a quadword. -/
def quadB (b : ByteArray) (k : Nat) : ByteArray := b.extract (16 * k) (16 * k + 16)
theorem toL_quad (b : ByteArray) (k : Nat) : toL (quadB b k) = ((toL b).drop (16 * k)).take 16 := by
  rw [quadB, toL_extract]; congr 1; omega
theorem quadB_size {b : ByteArray} {k : Nat} (h : 16 * k + 16 ≤ b.size) : (quadB b k).size = 16 := by
  rw [← toL_len, toL_quad, List.length_take, List.length_drop, toL_len]; omega
theorem quad_before {b : ByteArray} {a : Nat} {d : ByteArray} {j : Nat} (h : a + d.size ≤ b.size) (hj : 16 * j + 16 ≤ a) : quadB (patch b a d) j = quadB b j := by
  apply toL_inj
  rw [toL_quad, toL_quad, toL_patch, List.append_assoc, List.drop_append_of_le_length (by rw [List.length_take, toL_len]; omega), List.take_append_of_le_length (by rw [List.length_drop, List.length_take, toL_len]; omega), List.drop_take, List.take_take]
  congr 1; omega
theorem quad_behind {b : ByteArray} {a : Nat} {d : ByteArray} {j : Nat} (h : a + d.size ≤ b.size) (hj : a + d.size ≤ 16 * j) : quadB (patch b a d) j = quadB b j := by
  apply toL_inj
  rw [toL_quad, toL_quad, toL_patch]
  have hl : ((toL b).take a ++ toL d).length = a + d.size := by rw [List.length_append, List.length_take, toL_len, toL_len]; omega
  obtain ⟨m, hm⟩ : ∃ m, 16 * j = a + d.size + m := ⟨16 * j - (a + d.size), by omega⟩
  rw [hm]
  congr 1
  rw [← hl, List.drop_length_add_append, List.drop_drop, hl]
theorem quad_at {b : ByteArray} {k : Nat} {d : ByteArray} (h : 16 * k + 16 ≤ b.size) (hd : d.size = 16) : quadB (patch b (16 * k) d) k = d := by
  apply toL_inj
  rw [toL_quad, toL_patch]
  exact take_mid (by rw [List.length_take, toL_len]; omega) hd
theorem quad_other {b : ByteArray} {k j : Nat} {d : ByteArray} (h : 16 * k + 16 ≤ b.size) (hd : d.size = 16) (hj : j ≠ k) : quadB (patch b (16 * k) d) j = quadB b j := by
  rcases Nat.lt_or_ge j k with q | q
  · exact quad_before (by omega) (by omega)
  · exact quad_behind (by omega) (by omega)
theorem patch_self {b : ByteArray} {k : Nat} (h : 16 * k + 16 ≤ b.size) : patch b (16 * k) (quadB b k) = b := by
  apply toL_inj
  rw [toL_patch, quadB_size h, toL_quad]
  have e : ((toL b).drop (16 * k)).take 16 ++ (toL b).drop (16 * k + 16) = (toL b).drop (16 * k) := by
    rw [← List.drop_drop, List.take_append_drop]
  rw [List.append_assoc, e, List.take_append_drop]

/-! ### Storages -/
def Stg.tag (s : Stg) (k : Nat) : Bool := s.tags.getD k false
def ptrIn (b : ByteArray) : Ptr × Int := ptrInL (toL b)
def ptrB (p : Ptr) : ByteArray := ofL (ptrL p)
theorem ptrB_size (p : Ptr) : (ptrB p).size = 16 := by rw [ptrB, ofL_size, ptrL_len]
theorem ptrIn_ptrB {p : Ptr} (h : ptrE p = 0) : ptrIn (ptrB p) = (p, 0) := ptrInL_ptrL h
/-- What is seen in a quadword: its pointer, if it has a tag. -/
def Stg.view (s : Stg) (k : Nat) : Option Ptr := if s.tag k = true then some (ptrIn (quadB s.bytes k)).1 else none
/-- A storage whose tags are those of pointers. -/
structure Stg.Ok (s : Stg) (n : Nat) : Prop where
  size : s.bytes.size = 16 * n
  tags : s.tags.length = n
  ptr : ∀ k, k < n → s.tag k = true → (ptrIn (quadB s.bytes k)).2 = 0
theorem ptrIn_err {b : ByteArray} (h : (ptrIn b).2 = 0) : ptrE (ptrIn b).1 = 0 := by
  unfold ptrIn ptrInL at *
  split at h
  · cases h
  · split at h
    · cases h
    · split at h
      · exact absurd h (by assumption)
      · rename_i q1 q2 q3
        rw [if_neg q1, if_neg q2, if_neg q3]
        simpa using q3
theorem Stg.Ok.view {s : Stg} {n k : Nat} (h : s.Ok n) {p : Ptr} (hv : s.view k = some p) : k < n ∧ s.tag k = true ∧ ptrIn (quadB s.bytes k) = (p, 0) ∧ ptrE p = 0 := by
  unfold Stg.view at hv
  split at hv
  · rename_i q
    have hk : k < n := by
      rcases Nat.lt_or_ge k n with r | r
      · exact r
      · have : s.tag k = false := by rw [Stg.tag, List.getD_eq_getElem?_getD, List.getElem?_eq_none (by rw [h.tags]; exact r)]; rfl
        rw [this] at q; cases q
    have h2 := h.ptr k hk q
    cases hv
    exact ⟨hk, q, Prod.ext rfl h2, ptrIn_err h2⟩
  · cases hv
/-- A storage in which a quadword has other bytes and another tag. -/
def setQ (s : Stg) (k : Nat) (q : ByteArray) (t : Bool) : Stg := ⟨patch s.bytes (16 * k) q, s.tags.set k t⟩
theorem setQ_tag {s : Stg} {n k : Nat} {q : ByteArray} {t : Bool} (h : s.Ok n) (hk : k < n) (j : Nat) : (setQ s k q t).tag j = if j = k then t else s.tag j := by
  unfold setQ Stg.tag
  simp only [List.getD_eq_getElem?_getD, List.getElem?_set]
  have := h.tags
  by_cases hj : j = k
  · subst hj; rw [if_pos rfl, if_pos rfl, if_pos (by omega)]; rfl
  · rw [if_neg (fun e => hj e.symm), if_neg hj]
theorem setQ_quad {s : Stg} {n k : Nat} {q : ByteArray} {t : Bool} (h : s.Ok n) (hk : k < n) (hq : q.size = 16) (j : Nat) : quadB (setQ s k q t).bytes j = if j = k then q else quadB s.bytes j := by
  have := h.size
  unfold setQ
  simp only
  by_cases hj : j = k
  · subst hj; rw [if_pos rfl]; exact quad_at (by omega) hq
  · rw [if_neg hj]; exact quad_other (by omega) hq hj
theorem setQ_ok {s : Stg} {n k : Nat} {q : ByteArray} {t : Bool} (h : s.Ok n) (hk : k < n) (hq : q.size = 16) (ht : t = true → (ptrIn q).2 = 0) : (setQ s k q t).Ok n := by
  have h1 := h.size
  refine ⟨?_, ?_, fun j hj hjt => ?_⟩
  · unfold setQ; simp only; rw [patch_size (by omega)]; exact h.size
  · unfold setQ; simp only [List.length_set]; exact h.tags
  · rw [setQ_quad h hk hq]
    rw [setQ_tag h hk] at hjt
    split
    · rename_i e; rw [if_pos e] at hjt; exact ht hjt
    · rename_i e; rw [if_neg e] at hjt; exact h.ptr j hj hjt
theorem setQ_view {s : Stg} {n k : Nat} {q : ByteArray} {t : Bool} (h : s.Ok n) (hk : k < n) (hq : q.size = 16) (j : Nat) : (setQ s k q t).view j = if j = k then (if t = true then some (ptrIn q).1 else none) else s.view j := by
  unfold Stg.view
  rw [setQ_tag h hk, setQ_quad h hk hq]
  by_cases hj : j = k
  · simp only [if_pos hj]
  · simp only [if_neg hj]
/-- Whether bytes at an offset touch a quadword. -/
def touch (a n j : Nat) : Bool := decide (0 < n) && decide (a / 16 ≤ j) && decide (j ≤ (a + n - 1) / 16)
def clearT (l : List Bool) (a n : Nat) : List Bool := l.mapIdx fun j t => t && !touch a n j
/-- A storage after bytes were written. -/
def wrS (s : Stg) (a : Nat) (d : ByteArray) : Stg := ⟨patch s.bytes a d, clearT s.tags a d.size⟩
theorem clearT_len (l : List Bool) (a n : Nat) : (clearT l a n).length = l.length := by simp [clearT]
theorem clearT_get (l : List Bool) (a n j : Nat) : (clearT l a n).getD j false = (l.getD j false && !touch a n j) := by
  unfold clearT
  simp only [List.getD_eq_getElem?_getD, List.getElem?_mapIdx]
  cases l[j]? <;> simp
theorem wrS_tag (s : Stg) (a : Nat) (d : ByteArray) (j : Nat) : (wrS s a d).tag j = (s.tag j && !touch a d.size j) := clearT_get ..
theorem wrS_quad {s : Stg} {a : Nat} {d : ByteArray} {j : Nat} (h : a + d.size ≤ s.bytes.size) (ht : touch a d.size j = false) : quadB (wrS s a d).bytes j = quadB s.bytes j := by
  unfold wrS
  simp only
  unfold touch at ht
  by_cases h0 : 0 < d.size
  · by_cases h1 : a / 16 ≤ j
    · have h2 : ¬ j ≤ (a + d.size - 1) / 16 := by simpa [h0, h1] using ht
      exact quad_behind h (by omega)
    · exact quad_before h (by omega)
  · have e : patch s.bytes a d = s.bytes := by
      apply toL_inj
      rw [toL_patch]
      have e1 : toL d = [] := List.eq_nil_of_length_eq_zero (by rw [toL_len]; omega)
      have e2 : d.size = 0 := by omega
      rw [e1, e2, Nat.add_zero, List.append_nil, List.take_append_drop]
    rw [e]
theorem wrS_ok {s : Stg} {n a : Nat} {d : ByteArray} (hs : s.Ok n) (h : a + d.size ≤ s.bytes.size) : (wrS s a d).Ok n := by
  refine ⟨by unfold wrS; simp only; rw [patch_size h]; exact hs.size, by unfold wrS; simp only; rw [clearT_len]; exact hs.tags, fun j hj ht => ?_⟩
  rw [wrS_tag, Bool.and_eq_true] at ht
  rw [wrS_quad h (by simpa using ht.2)]
  exact hs.ptr j hj ht.1
theorem wrS_view {s : Stg} {a : Nat} {d : ByteArray} (h : a + d.size ≤ s.bytes.size) (j : Nat) : (wrS s a d).view j = if touch a d.size j = true then none else s.view j := by
  unfold Stg.view
  rw [wrS_tag]
  cases ht : touch a d.size j with
  | true => simp
  | false => rw [wrS_quad h ht]; simp
theorem clearT_quad {l : List Bool} {k : Nat} : clearT l (16 * k) 16 = l.set k false := by
  apply List.ext_getElem?
  intro j
  unfold clearT
  rw [List.getElem?_mapIdx, List.getElem?_set]
  have ht : touch (16 * k) 16 j = decide (k = j) := by
    unfold touch
    have e1 : 16 * k / 16 = k := by omega
    have e2 : (16 * k + 16 - 1) / 16 = k := by omega
    rw [e1, e2]
    by_cases h : k = j
    · subst h; simp
    · have : ¬ (k ≤ j ∧ j ≤ k) := fun q => h (Nat.le_antisymm q.1 q.2)
      rw [decide_eq_false h]
      by_cases h1 : k ≤ j
      · have : ¬ j ≤ k := fun q => this ⟨h1, q⟩
        simp [h1, this]
      · simp [h1]
  by_cases h : k = j
  · subst h
    rw [if_pos rfl, ht]
    by_cases hl : k < l.length
    · rw [if_pos hl, List.getElem?_eq_getElem hl]; simp
    · rw [if_neg hl, List.getElem?_eq_none (by omega)]; rfl
  · rw [if_neg h, ht, decide_eq_false h]
    cases l[j]? <;> simp
/-- Writing a quadword. -/
theorem wrS_quadword {s : Stg} {k : Nat} {q : ByteArray} (hq : q.size = 16) : wrS s (16 * k) q = setQ s k q false := by
  unfold wrS setQ
  rw [hq, clearT_quad]
theorem setQ_set {s : Stg} {k : Nat} {q : ByteArray} {t u : Bool} : (⟨(setQ s k q t).bytes, (setQ s k q t).tags.set k u⟩ : Stg) = setQ s k q u := by
  unfold setQ; simp only [List.set_set]

/-- An operation. -/
structure COp where
  kind : Int
  job : Int
  src : Int
  dst : Int
  pointer : Int
  object : Int
  auth : Int
  data : ByteArray
deriving Inhabited

end Go.Proofs.YtbhgehhmjpipiaaGreat.C12
/- Chapter 12: plain laws of operations: what a step leaves; a step keeps states right. -/
set_option linter.unusedVariables false
set_option linter.unusedSimpArgs false
namespace Go.Proofs.YtbhgehhmjpipiaaGreat.C12
open Go Go.Proofs

structure St where
  jobs : List Stg
  spaces : List Stg
deriving Inhabited
def zSt : St := ⟨[], []⟩
def andI (a b : Int) : Int := Go.bits .and .i64 a b
theorem andI_rng {a b : Int} (ha : 0 ≤ a ∧ a ≤ 1023) (hb : 0 ≤ b ∧ b ≤ 1023) : 0 ≤ andI a b ∧ andI a b ≤ 1023 := by
  obtain ⟨x, rfl⟩ := Int.eq_ofNat_of_zero_le ha.1
  obtain ⟨y, rfl⟩ := Int.eq_ofNat_of_zero_le hb.1
  have h := (bits_nat .i64 10 (by decide) (fun n h1 h2 => by rw [IntKind.wrap_i64]; omega) x y (by omega) (by omega)).1
  unfold andI
  rw [h]
  have : x &&& y ≤ x := Nat.and_le_left
  omega

def isQ (n : Int) : Bool := decide (0 ≤ n ∧ n ≤ 59)
/-- Whether the fields of an operation are wrong. -/
def badF (C : CC) (o : COp) : Bool :=
  (decide (2 ≤ o.kind ∧ o.kind ≤ 7) && !isQ o.src) || (!decide (o.kind = 1 ∨ o.kind = 8) && !decide (o.kind = 4) && !isQ o.dst) || (decide (6 ≤ o.kind) && !isQ o.pointer)
    || (decide (o.kind = 1 ∨ o.kind = 8) && !decide (0 ≤ o.dst ∧ o.dst + (o.data.size : Int) ≤ 960))
    || (decide (o.kind = 0) && !decide (0 ≤ o.object ∧ o.object < (C.O : Int))) || (decide (o.kind = 4) && !decide (0 ≤ o.auth ∧ o.auth ≤ 1023))
def St.own (s : St) (o : COp) : Stg := s.jobs.getD o.job.toNat default
def St.sp (s : St) (k : Nat) : Stg := s.spaces.getD k default
def setJ (s : St) (o : COp) (x : Stg) : St := ⟨s.jobs.set o.job.toNat x, s.spaces⟩
def setP (s : St) (k : Nat) (x : Stg) : St := ⟨s.jobs, s.spaces.set k x⟩
def atI (o : COp) : Int := if o.kind = 4 ∨ o.kind = 5 then o.src else o.pointer
def kdI (o : COp) : Int := if o.kind = 8 then 0 else 1
def needI (o : COp) : Int := if o.kind = 8 ∨ o.kind = 4 then 0 else if o.kind = 7 then 32 else 128
/-- What an operation does by a pointer. -/
def byP (s : St) (o : COp) (p : Ptr) : St :=
  if o.kind = 4 then setJ s o (setQ (s.own o) o.src.toNat (ptrB ⟨p.kind, p.seg, p.off, andI p.auth o.auth⟩) true)
  else if o.kind = 5 then setJ s o (setQ (s.own o) o.dst.toNat (ptrB ⟨0, p.seg, p.off, 0⟩) true)
  else if o.kind = 6 then setP s (p.seg - 1).toNat (setQ (s.sp (p.seg - 1).toNat) o.dst.toNat (quadB (s.own o).bytes o.src.toNat) ((s.own o).tag o.src.toNat))
  else if o.kind = 7 then setJ s o (setQ (s.own o) o.dst.toNat (quadB (s.sp (p.seg - 1).toNat).bytes o.src.toNat) ((s.sp (p.seg - 1).toNat).tag o.src.toNat))
  else setP s (p.seg - 1).toNat (wrS (s.sp (p.seg - 1).toNat) o.dst.toNat o.data)
def byPS (C : CC) (s : St) (o : COp) : St × Int :=
  match (s.own o).view (atI o).toNat with
  | none => (zSt, 22)
  | some p => if ¬ p.kind = kdI o ∨ (¬ o.kind = 4 ∧ C.sp (p.seg - 1) = false) then (zSt, 17) else if C.inc p.auth (needI o) = false then (zSt, 23) else (byP s o p, 0)
/-- The state after an operation, or the error. -/
def stepS (C : CC) (s : St) (o : COp) : St × Int :=
  if ¬ (0 ≤ o.kind ∧ o.kind ≤ 8) then (zSt, 4) else if ¬ (0 ≤ o.job ∧ o.job < (C.J : Int)) then (zSt, 3) else if badF C o = true then (zSt, 3)
  else if o.kind = 0 then (if C.au o.job.toNat o.object.toNat = 0 then (zSt, 23) else (setJ s o (setQ (s.own o) o.dst.toNat (ptrB ⟨1, o.object + 1, 0, C.au o.job.toNat o.object.toNat⟩) true), 0))
  else if o.kind = 1 then (setJ s o (wrS (s.own o) o.dst.toNat o.data), 0)
  else if o.kind = 2 then (setJ s o (setQ (s.own o) o.dst.toNat (quadB (s.own o).bytes o.src.toNat) ((s.own o).tag o.src.toNat)), 0)
  else if o.kind = 3 then (setJ s o (setQ (s.own o) o.dst.toNat (quadB (s.own o).bytes o.src.toNat) false), 0)
  else byPS C s o

/-! ### States that are right -/
/-- A pointer that may stand in a state. -/
structure PtrOk (C : CC) (p : Ptr) : Prop where
  kind : ¬ p.kind = 2
  off : p.off = 0
  seg : 1 ≤ p.seg ∧ p.seg ≤ (C.O : Int)
  space : p.kind = 0 → C.sp (p.seg - 1) = true
structure StgV (C : CC) (n : Nat) (s : Stg) : Prop where
  ok : s.Ok n
  ptr : ∀ k p, s.view k = some p → PtrOk C p
def quadsC (C : CC) (k : Nat) : Nat := if C.sp (k : Int) = true then 60 else 0
structure StV (C : CC) (s : St) : Prop where
  nj : s.jobs.length = C.J
  ns : s.spaces.length = C.O
  job : ∀ j, j < C.J → StgV C 60 (s.jobs.getD j default)
  sp : ∀ k, k < C.O → StgV C (quadsC C k) (s.spaces.getD k default)
/-- The bounds of a case that is right, with its authorities. -/
structure CC.Aut (C : CC) : Prop where
  fit : C.Fit
  au : ∀ j k, j < C.J → k < C.O → 0 ≤ C.au j k ∧ C.au j k ≤ 1023
variable {C : CC}
theorem StgV.setQ {n k : Nat} {s : Stg} {q : ByteArray} {t : Bool} (h : StgV C n s) (hk : k < n) (hq : q.size = 16) (ht : t = true → (ptrIn q).2 = 0 ∧ PtrOk C (ptrIn q).1) : StgV C n (C12.setQ s k q t) := by
  refine ⟨setQ_ok h.ok hk hq fun e => (ht e).1, fun j p hv => ?_⟩
  rw [setQ_view h.ok hk hq] at hv
  split at hv
  · split at hv
    · rename_i e; cases hv; exact (ht e).2
    · cases hv
  · exact h.ptr j p hv
theorem StgV.wrS {n a : Nat} {s : Stg} {d : ByteArray} (h : StgV C n s) (ha : a + d.size ≤ s.bytes.size) : StgV C n (C12.wrS s a d) := by
  refine ⟨wrS_ok h.ok ha, fun j p hv => ?_⟩
  rw [wrS_view ha] at hv
  split at hv
  · cases hv
  · exact h.ptr j p hv
theorem StgV.tag {n k : Nat} {s : Stg} (h : StgV C n s) (ht : s.tag k = true) : (ptrIn (quadB s.bytes k)).2 = 0 ∧ PtrOk C (ptrIn (quadB s.bytes k)).1 := by
  have hv : s.view k = some (ptrIn (quadB s.bytes k)).1 := by unfold Stg.view; rw [if_pos ht]
  exact ⟨congrArg Prod.snd (h.ok.view hv).2.2.1, h.ptr k _ hv⟩
theorem StV.setJ {s : St} (h : StV C s) {o : COp} {x : Stg} (hx : StgV C 60 x) : StV C (C12.setJ s o x) := by
  refine ⟨by unfold C12.setJ; simp [h.nj], h.ns, fun j hj => ?_, h.sp⟩
  unfold C12.setJ
  simp only [List.getD_eq_getElem?_getD, List.getElem?_set]
  split
  · split
    · exact hx
    · rename_i e1 e2; exact absurd (by rw [h.nj]; omega) e2
  · have := h.job j hj; rwa [List.getD_eq_getElem?_getD] at this
theorem StV.setP {s : St} (h : StV C s) {k : Nat} {x : Stg} (hx : StgV C (quadsC C k) x) : StV C (C12.setP s k x) := by
  refine ⟨h.nj, by unfold C12.setP; simp [h.ns], h.job, fun j hj => ?_⟩
  unfold C12.setP
  simp only [List.getD_eq_getElem?_getD, List.getElem?_set]
  split
  · rename_i e
    subst e
    split
    · exact hx
    · rename_i e2; exact absurd (by rw [h.ns]; omega) e2
  · have := h.sp j hj; rwa [List.getD_eq_getElem?_getD] at this

/-- What the fields of an operation say, if they are right. -/
structure FOk (C : CC) (o : COp) : Prop where
  kind : 0 ≤ o.kind ∧ o.kind ≤ 8
  job : 0 ≤ o.job ∧ o.job < (C.J : Int)
  src : 2 ≤ o.kind → o.kind ≤ 7 → 0 ≤ o.src ∧ o.src ≤ 59
  dst : ¬ o.kind = 1 → ¬ o.kind = 8 → ¬ o.kind = 4 → 0 ≤ o.dst ∧ o.dst ≤ 59
  ptr : 6 ≤ o.kind → 0 ≤ o.pointer ∧ o.pointer ≤ 59
  data : o.kind = 1 ∨ o.kind = 8 → 0 ≤ o.dst ∧ o.dst + (o.data.size : Int) ≤ 960
  object : o.kind = 0 → 0 ≤ o.object ∧ o.object < (C.O : Int)
  auth : o.kind = 4 → 0 ≤ o.auth ∧ o.auth ≤ 1023
theorem fok_of {o : COp} (h1 : 0 ≤ o.kind ∧ o.kind ≤ 8) (h2 : 0 ≤ o.job ∧ o.job < (C.J : Int)) (h : badF C o = false) : FOk C o := by
  unfold badF isQ at h
  simp only [Bool.or_eq_false_iff, Bool.and_eq_false_iff, decide_eq_false_iff_not, Bool.not_eq_false, Bool.not_eq_eq_eq_not, Bool.not_false, Bool.not_true, decide_eq_true_eq] at h
  obtain ⟨⟨⟨⟨⟨a1, a2⟩, a3⟩, a4⟩, a5⟩, a6⟩ := h
  refine ⟨h1, h2, fun q1 q2 => ?_, fun q1 q2 q3 => ?_, fun q => ?_, fun q => ?_, fun q => ?_, fun q => ?_⟩
  · omega
  · omega
  · omega
  · omega
  · omega
  · omega
theorem atI_rng {o : COp} (h : FOk C o) (hk : 4 ≤ o.kind) : 0 ≤ atI o ∧ atI o ≤ 59 := by
  unfold atI
  have := h.kind
  split
  · exact h.src (by omega) (by omega)
  · exact h.ptr (by omega)

/-- A step that is right keeps the state right. -/
theorem byP_ok (hA : C.Aut) {s : St} (h : StV C s) {o : COp} (hf : FOk C o) (hk : 4 ≤ o.kind) {p : Ptr} (hv : (s.own o).view (atI o).toNat = some p) (hs : o.kind = 4 ∨ C.sp (p.seg - 1) = true) (h1 : p.kind = kdI o) : StV C (byP s o p) := by
  have hj := hf.job
  have hown : StgV C 60 (s.own o) := h.job o.job.toNat (by omega)
  have hp := hown.ptr _ _ hv
  obtain ⟨_, _, _, hpe⟩ := hown.ok.view hv
  obtain ⟨e1, e2, e3, e4, e5⟩ := ptrE_ok.1 hpe
  have hsp : o.kind = 4 ∨ StgV C 60 (s.sp (p.seg - 1).toNat) := by
    rcases hs with q | q
    · exact .inl q
    · right
      have := h.sp (p.seg - 1).toNat (by have := hp.seg; omega)
      have e : ((p.seg - 1).toNat : Int) = p.seg - 1 := by have := hp.seg; omega
      unfold quadsC at this
      rw [e, if_pos q] at this
      exact this
  have hq : ∀ o', C.sp o' = true → quadsC C o'.toNat = 60 := fun o' q => by
    have := hA.fit.sp o' q
    unfold quadsC
    rw [show ((o'.toNat : Nat) : Int) = o' by omega, if_pos q]
  have := hf.kind
  unfold byP
  split
  · rename_i k4
    have h0 := andI_rng e4 (hf.auth k4)
    have hkd : p.kind = 1 := by rw [h1, kdI, if_neg (by omega)]
    have hpp : ptrE ⟨p.kind, p.seg, p.off, andI p.auth o.auth⟩ = 0 := ptrE_ok.2 ⟨e1, e2, e3, h0, .inl hkd⟩
    have hsrc := hf.src (by omega) (by omega)
    refine h.setJ (hown.setQ (by omega) (ptrB_size _) fun _ => ?_)
    rw [ptrIn_ptrB hpp]
    exact ⟨rfl, hp.kind, hp.off, hp.seg, hp.space⟩
  rename_i k4
  have hs' : C.sp (p.seg - 1) = true := hs.resolve_left k4
  have hsp' := hsp.resolve_left k4
  split
  · rename_i k5
    have hdst := hf.dst (by omega) (by omega) (by omega)
    have hpp : ptrE ⟨0, p.seg, p.off, 0⟩ = 0 := ptrE_ok.2 ⟨by simp, e2, e3, by simp, by simp⟩
    refine h.setJ (hown.setQ (by omega) (ptrB_size _) fun _ => ?_)
    rw [ptrIn_ptrB hpp]
    exact ⟨rfl, by simp, hp.off, hp.seg, fun _ => hs'⟩
  rename_i k5
  split
  · rename_i k6
    have hdst := hf.dst (by omega) (by omega) (by omega)
    have hsrc := hf.src (by omega) (by omega)
    refine h.setP ?_
    rw [hq _ hs']
    exact hsp'.setQ (by omega) (quadB_size (by rw [hown.ok.size]; omega)) fun e => hown.tag e
  rename_i k6
  split
  · rename_i k7
    have hdst := hf.dst (by omega) (by omega) (by omega)
    have hsrc := hf.src (by omega) (by omega)
    refine h.setJ ?_
    exact hown.setQ (by omega) (quadB_size (by rw [hsp'.ok.size]; omega)) fun e => hsp'.tag e
  · rename_i k7
    have hd := hf.data (by omega)
    refine h.setP ?_
    rw [hq _ hs']
    exact hsp'.wrS (by rw [hsp'.ok.size]; omega)
theorem step_ok (hA : C.Aut) {s : St} (h : StV C s) {o : COp} (he : (stepS C s o).2 = 0) : StV C (stepS C s o).1 := by
  unfold stepS at he ⊢
  split at he
  · cases he
  rename_i q1
  rw [if_neg q1]
  split at he
  · cases he
  rename_i q2
  rw [if_neg q2]
  split at he
  · cases he
  rename_i q3
  rw [if_neg q3]
  have hf : FOk C o := fok_of (Classical.not_not.1 q1) (Classical.not_not.1 q2) (by simpa using q3)
  have hj := hf.job
  have hown : StgV C 60 (s.own o) := h.job o.job.toNat (by omega)
  split at he
  · rename_i k0
    rw [if_pos k0]
    split at he
    · cases he
    rename_i q4
    rw [if_neg q4]
    have ho := hf.object k0
    have hdst := hf.dst (by omega) (by omega) (by omega)
    have ha := hA.au o.job.toNat o.object.toNat (by omega) (by omega)
    have hO := hA.fit.O
    have hpp : ptrE ⟨1, o.object + 1, 0, C.au o.job.toNat o.object.toNat⟩ = 0 := ptrE_ok.2 ⟨by simp, by simp only; omega, by simp, ha, .inl rfl⟩
    refine h.setJ (hown.setQ (by omega) (ptrB_size _) fun _ => ?_)
    rw [ptrIn_ptrB hpp]
    exact ⟨rfl, by simp, rfl, by simp only; omega, fun e => by simp at e⟩
  rename_i k0
  rw [if_neg k0]
  split at he
  · rename_i k1
    rw [if_pos k1]
    have hd := hf.data (.inl k1)
    exact h.setJ (hown.wrS (by rw [hown.ok.size]; omega))
  rename_i k1
  rw [if_neg k1]
  split at he
  · rename_i k2
    rw [if_pos k2]
    have hdst := hf.dst (by omega) (by omega) (by omega)
    have hsrc := hf.src (by omega) (by omega)
    exact h.setJ (hown.setQ (by omega) (quadB_size (by rw [hown.ok.size]; omega)) fun e => hown.tag e)
  rename_i k2
  rw [if_neg k2]
  split at he
  · rename_i k3
    rw [if_pos k3]
    have hdst := hf.dst (by omega) (by omega) (by omega)
    have hsrc := hf.src (by omega) (by omega)
    exact h.setJ (hown.setQ (by omega) (quadB_size (by rw [hown.ok.size]; omega)) fun e => by cases e)
  rename_i k3
  rw [if_neg k3]
  have hk : 4 ≤ o.kind := by have := hf.kind; omega
  unfold byPS at he ⊢
  cases hv : (s.own o).view (atI o).toNat with
  | none => rw [hv] at he; cases he
  | some p =>
    rw [hv] at he
    simp only at he ⊢
    split at he
    · cases he
    rename_i q4
    rw [if_neg q4]
    split at he
    · cases he
    rename_i q5
    rw [if_neg q5]
    refine byP_ok hA h hf hk hv ?_ ?_
    · by_cases r : o.kind = 4
      · exact .inl r
      · right
        cases hs : C.sp (p.seg - 1) with
        | true => rfl
        | false => exact absurd (.inr ⟨r, hs⟩) q4
    · exact Classical.byContradiction fun r => q4 (.inl r)

/-! ### The start, and runs -/
def zStg (n : Nat) : Stg := ⟨ofL (List.replicate (16 * n) 0), List.replicate n false⟩
theorem zStg_ok (n : Nat) : (zStg n).Ok n := by
  refine ⟨by simp [zStg, ofL_size], by simp [zStg], fun k hk ht => ?_⟩
  unfold Stg.tag zStg at ht
  simp only [List.getD_eq_getElem?_getD, List.getElem?_replicate] at ht
  split at ht <;> cases ht
theorem zStg_view (n k : Nat) : (zStg n).view k = none := by
  unfold Stg.view Stg.tag zStg
  simp only [List.getD_eq_getElem?_getD, List.getElem?_replicate]
  split <;> simp
def startS (C : CC) : St := ⟨List.replicate C.J (zStg 60), (List.range C.O).map fun k => zStg (quadsC C k)⟩
theorem zStg_v (C : CC) (n : Nat) : StgV C n (zStg n) := ⟨zStg_ok n, fun k p hv => by rw [zStg_view] at hv; cases hv⟩
theorem start_ok (C : CC) : StV C (startS C) := by
  refine ⟨by simp [startS], by simp [startS], fun j hj => ?_, fun k hk => ?_⟩
  · have : (startS C).jobs.getD j default = zStg 60 := by simp [startS, List.getD_eq_getElem?_getD, List.getElem?_replicate, hj]
    rw [this]; exact zStg_v C 60
  · have : (startS C).spaces.getD k default = zStg (quadsC C k) := by simp [startS, List.getD_eq_getElem?_getD, hk]
    rw [this]; exact zStg_v C _
/-- The state after an operation of a run. -/
def nextS (C : CC) (s : St) (o : COp) : St := if (stepS C s o).2 = 0 then (stepS C s o).1 else s
def runGo (C : CC) : St → List COp → St
  | s, [] => s
  | s, o :: l => runGo C (nextS C s o) l
def errsGo (C : CC) : St → List COp → List Int
  | s, [] => []
  | s, o :: l => (stepS C s o).2 :: errsGo C (nextS C s o) l
theorem next_ok (hA : C.Aut) {s : St} (h : StV C s) (o : COp) : StV C (nextS C s o) := by
  unfold nextS; split
  · rename_i q; exact step_ok hA h q
  · exact h
theorem runGo_ok (hA : C.Aut) : ∀ {l : List COp} {s : St}, StV C s → StV C (runGo C s l)
  | [], s, h => h
  | o :: l, s, h => runGo_ok (l := l) hA (next_ok hA h o)
theorem errsGo_len : ∀ (l : List COp) (s : St), (errsGo C s l).length = l.length
  | [], s => rfl
  | o :: l, s => by simp [errsGo, errsGo_len l]
theorem runGo_snoc : ∀ (l : List COp) (s : St) (o : COp), runGo C s (l ++ [o]) = nextS C (runGo C s l) o
  | [], s, o => rfl
  | a :: l, s, o => runGo_snoc l (nextS C s a) o
theorem errsGo_snoc : ∀ (l : List COp) (s : St) (o : COp), errsGo C s (l ++ [o]) = errsGo C s l ++ [(stepS C (runGo C s l) o).2]
  | [], s, o => rfl
  | a :: l, s, o => by simp only [List.cons_append, errsGo, runGo, errsGo_snoc l]

end Go.Proofs.YtbhgehhmjpipiaaGreat.C12
/- Chapter 12: the plain law of witnesses: behind the operations of the derivations each job holds what it has derived; the plain law of what is never forged. -/
set_option linter.unusedVariables false
set_option linter.unusedSimpArgs false
namespace Go.Proofs.YtbhgehhmjpipiaaGreat.C12
open Go Go.Proofs

variable {C : CC}
theorem DOk.proved {l : List Der} (h : DOk C l) : ∀ n, n < l.length → Proved C (l.take n) (l.getD n default) := by
  induction h with
  | nil => intro n hn; exact absurd hn (Nat.not_lt_zero _)
  | @snoc l x h hx hn ih =>
    intro n hn'
    rw [List.length_append, List.length_singleton] at hn'
    rcases Nat.lt_or_ge n l.length with q | q
    · have e1 : (l ++ [x]).take n = l.take n := List.take_append_of_le_length (by omega)
      have e2 : (l ++ [x]).getD n default = l.getD n default := by simp [List.getD_eq_getElem?_getD, List.getElem?_append_left q]
      rw [e1, e2]; exact ih n q
    · have e : n = l.length := by omega
      subst e
      have e1 : (l ++ [x]).take l.length = l := List.take_left
      have e2 : (l ++ [x]).getD l.length default = x := by simp [List.getD_eq_getElem?_getD]
      rw [e1, e2]; exact hx

/-! ### What a step does, told by views -/
theorem setJ_job {s : St} {o : COp} {x : Stg} (h : o.job.toNat < s.jobs.length) (j : Nat) : (setJ s o x).jobs.getD j default = if j = o.job.toNat then x else s.jobs.getD j default := by
  unfold setJ
  simp only [List.getD_eq_getElem?_getD, List.getElem?_set]
  by_cases e : j = o.job.toNat
  · subst e; rw [if_pos rfl, if_pos rfl, if_pos h]; rfl
  · rw [if_neg (fun q => e q.symm), if_neg e]
theorem setP_sp {s : St} {k : Nat} {x : Stg} (h : k < s.spaces.length) (j : Nat) : (setP s k x).spaces.getD j default = if j = k then x else s.spaces.getD j default := by
  unfold setP
  simp only [List.getD_eq_getElem?_getD, List.getElem?_set]
  by_cases e : j = k
  · subst e; rw [if_pos rfl, if_pos rfl, if_pos h]; rfl
  · rw [if_neg (fun q => e q.symm), if_neg e]
def St.jv (s : St) (j k : Nat) : Option Ptr := (s.jobs.getD j default).view k
def St.sv (s : St) (o k : Nat) : Option Ptr := (s.spaces.getD o default).view k
theorem viewQ (s : Stg) (k : Nat) : (if s.tag k = true then some (ptrIn (quadB s.bytes k)).1 else none) = s.view k := rfl

/-! ### The operations of a witness -/
def opR (d : Der) (i : Nat) : COp := ⟨0, d.cap.job, 0, (i : Int), 0, d.cap.object, 0, ⟨#[]⟩⟩
def opA (d : Der) (i : Nat) : COp := ⟨5, d.cap.job, d.source, (i : Int), 0, 0, 0, ⟨#[]⟩⟩
def opS (d y : Der) (i : Nat) : COp := ⟨6, y.cap.job, d.source, (i : Int), d.writer, 0, 0, ⟨#[]⟩⟩
def opL (d : Der) (i : Nat) : COp := ⟨7, d.cap.job, (i : Int), (i : Int), d.reader, 0, 0, ⟨#[]⟩⟩
def wOps (l : List Der) (i : Nat) (d : Der) : List COp := if d.kind = 0 then [opR d i] else if d.kind = 1 then [opA d i] else [opS d (l.getD d.source.toNat default) i, opL d i]
def opsN (l : List Der) : Nat → List COp
  | 0 => []
  | n + 1 => opsN l n ++ wOps l n (l.getD n default)
theorem wOps_len (l : List Der) (i : Nat) (d : Der) : (wOps l i d).length ≤ 2 := by
  unfold wOps; split
  · simp
  · split <;> simp
theorem opsN_len (l : List Der) : ∀ n, (opsN l n).length ≤ 2 * n
  | 0 => Nat.le_refl _
  | n + 1 => by have := opsN_len l n; have := wOps_len l n (l.getD n default); simp only [opsN, List.length_append]; omega
theorem wOps_data {l : List Der} {i : Nat} {d : Der} : ∀ o ∈ wOps l i d, o.data.size = 0 := by
  intro o ho
  unfold wOps at ho
  split at ho
  · simp only [List.mem_cons, List.not_mem_nil, or_false] at ho; subst ho; rfl
  · split at ho
    · simp only [List.mem_cons, List.not_mem_nil, or_false] at ho; subst ho; rfl
    · simp only [List.mem_cons, List.not_mem_nil, or_false] at ho; rcases ho with rfl | rfl <;> rfl
theorem opsN_data {l : List Der} : ∀ n, ∀ o ∈ opsN l n, o.data.size = 0
  | 0, o, h => by cases h
  | n + 1, o, h => by
    rcases List.mem_append.1 h with q | q
    · exact opsN_data n o q
    · exact wOps_data o q
def capP (x : Cap) : Ptr := ⟨x.kind, x.object + 1, 0, x.auth⟩
structure WInv (C : CC) (l : List Der) (n : Nat) (s : St) : Prop where
  ok : StV C s
  view : ∀ k, k < n → s.jv (l.getD k default).cap.job.toNat k = some (capP (l.getD k default).cap)
theorem getD_take {l : List Der} {n k : Nat} {y : Der} (h : (l.take n)[k]? = some y) : k < n ∧ l.getD k default = y := by
  rw [List.getElem?_take] at h
  split at h
  · rename_i q; exact ⟨q, by rw [List.getD_eq_getElem?_getD, h]; rfl⟩
  · cases h
theorem nextS_ok {s t : St} {o : COp} (h : stepS C s o = (t, 0)) : nextS C s o = t := by unfold nextS; rw [h]; rfl
theorem stepR {s : St} {d : Der} {n : Nat} (hn : n < 60) (hj : 0 ≤ d.cap.job ∧ d.cap.job < (C.J : Int)) (ho : 0 ≤ d.cap.object ∧ d.cap.object < (C.O : Int)) (ha : C.au d.cap.job.toNat d.cap.object.toNat ≠ 0) :
    stepS C s (opR d n) = (setJ s (opR d n) (setQ (s.own (opR d n)) n (ptrB ⟨1, d.cap.object + 1, 0, C.au d.cap.job.toNat d.cap.object.toNat⟩) true), 0) := by
  have hb : badF C (opR d n) = false := by
    have h1 : isQ (n : Int) = true := decide_eq_true (by omega)
    simp [badF, opR, h1, ho.1, ho.2]
  unfold stepS
  rw [if_neg (by simp [opR]), if_neg (show ¬ ¬ (0 ≤ (opR d n).job ∧ (opR d n).job < (C.J : Int)) from not_not_intro hj), if_neg (by rw [hb]; decide), if_pos (show (opR d n).kind = 0 from rfl), if_neg (show ¬ C.au (opR d n).job.toNat (opR d n).object.toNat = 0 from ha)]
  simp [opR]
theorem stepA {s : St} {d : Der} {n : Nat} (hn : n < 60) (hj : 0 ≤ d.cap.job ∧ d.cap.job < (C.J : Int)) (hs : 0 ≤ d.source ∧ d.source ≤ 59) {p : Ptr} (hv : s.jv d.cap.job.toNat d.source.toNat = some p) (hk : p.kind = 1) (hsp : C.sp (p.seg - 1) = true) (hi : C.inc p.auth 128 = true) :
    stepS C s (opA d n) = (setJ s (opA d n) (setQ (s.own (opA d n)) n (ptrB ⟨0, p.seg, p.off, 0⟩) true), 0) := by
  have hb : badF C (opA d n) = false := by
    have h1 : isQ (n : Int) = true := decide_eq_true (by omega)
    have h2 : isQ d.source = true := decide_eq_true hs
    simp [badF, opA, h1, h2]
  unfold stepS
  rw [if_neg (by simp [opA]), if_neg (show ¬ ¬ (0 ≤ (opA d n).job ∧ (opA d n).job < (C.J : Int)) from not_not_intro hj), if_neg (by rw [hb]; decide), if_neg (by simp [opA]), if_neg (by simp [opA]), if_neg (by simp [opA]), if_neg (by simp [opA])]
  have hv' : (s.own (opA d n)).view (atI (opA d n)).toNat = some p := hv
  unfold byPS
  rw [hv']
  simp only
  have e1 : kdI (opA d n) = 1 := rfl
  have e2 : needI (opA d n) = 128 := rfl
  rw [e1, e2, if_neg (by rw [hk, hsp]; simp), if_neg (by rw [hi]; decide)]
  unfold byP
  rw [if_neg (by simp [opA]), if_pos (show (opA d n).kind = 5 from rfl)]
  simp [opA]
theorem stepSt {s : St} {d y : Der} {n : Nat} (hn : n < 60) (hj : 0 ≤ y.cap.job ∧ y.cap.job < (C.J : Int)) (hs : 0 ≤ d.source ∧ d.source ≤ 59) (hw : 0 ≤ d.writer ∧ d.writer ≤ 59) {p : Ptr} (hv : s.jv y.cap.job.toNat d.writer.toNat = some p) (hk : p.kind = 1) (hsp : C.sp (p.seg - 1) = true) (hi : C.inc p.auth 128 = true) :
    stepS C s (opS d y n) = (setP s (p.seg - 1).toNat (setQ (s.sp (p.seg - 1).toNat) n (quadB (s.own (opS d y n)).bytes d.source.toNat) ((s.own (opS d y n)).tag d.source.toNat)), 0) := by
  have hb : badF C (opS d y n) = false := by
    have h1 : isQ (n : Int) = true := decide_eq_true (by omega)
    have h2 : isQ d.source = true := decide_eq_true hs
    have h3 : isQ d.writer = true := decide_eq_true hw
    simp [badF, opS, h1, h2, h3]
  unfold stepS
  rw [if_neg (by simp [opS]), if_neg (show ¬ ¬ (0 ≤ (opS d y n).job ∧ (opS d y n).job < (C.J : Int)) from not_not_intro hj), if_neg (by rw [hb]; decide), if_neg (by simp [opS]), if_neg (by simp [opS]), if_neg (by simp [opS]), if_neg (by simp [opS])]
  have hv' : (s.own (opS d y n)).view (atI (opS d y n)).toNat = some p := hv
  unfold byPS
  rw [hv']
  simp only
  have e1 : kdI (opS d y n) = 1 := rfl
  have e2 : needI (opS d y n) = 128 := rfl
  rw [e1, e2, if_neg (by rw [hk, hsp]; simp), if_neg (by rw [hi]; decide)]
  unfold byP
  rw [if_neg (by simp [opS]), if_neg (by simp [opS]), if_pos (show (opS d y n).kind = 6 from rfl)]
  simp [opS]
theorem stepL {s : St} {d : Der} {n : Nat} (hn : n < 60) (hj : 0 ≤ d.cap.job ∧ d.cap.job < (C.J : Int)) (hw : 0 ≤ d.reader ∧ d.reader ≤ 59) {p : Ptr} (hv : s.jv d.cap.job.toNat d.reader.toNat = some p) (hk : p.kind = 1) (hsp : C.sp (p.seg - 1) = true) (hi : C.inc p.auth 32 = true) :
    stepS C s (opL d n) = (setJ s (opL d n) (setQ (s.own (opL d n)) n (quadB (s.sp (p.seg - 1).toNat).bytes n) ((s.sp (p.seg - 1).toNat).tag n)), 0) := by
  have hb : badF C (opL d n) = false := by
    have h1 : isQ (n : Int) = true := decide_eq_true (by omega)
    have h3 : isQ d.reader = true := decide_eq_true hw
    simp [badF, opL, h1, h3]
  unfold stepS
  rw [if_neg (by simp [opL]), if_neg (show ¬ ¬ (0 ≤ (opL d n).job ∧ (opL d n).job < (C.J : Int)) from not_not_intro hj), if_neg (by rw [hb]; decide), if_neg (by simp [opL]), if_neg (by simp [opL]), if_neg (by simp [opL]), if_neg (by simp [opL])]
  have hv' : (s.own (opL d n)).view (atI (opL d n)).toNat = some p := hv
  unfold byPS
  rw [hv']
  simp only
  have e1 : kdI (opL d n) = 1 := rfl
  have e2 : needI (opL d n) = 32 := rfl
  rw [e1, e2, if_neg (by rw [hk, hsp]; simp), if_neg (by rw [hi]; decide)]
  unfold byP
  rw [if_neg (by simp [opL]), if_neg (by simp [opL]), if_neg (by simp [opL]), if_pos (show (opL d n).kind = 7 from rfl)]
  simp [opL]
/-- A quadword of a job is set that none of the derivations so far has. -/
theorem WInv.put {l : List Der} {n : Nat} {s : St} (h : WInv C l n s) {o : COp} {q : ByteArray} {t : Bool} (hn : n < 60) (hj : 0 ≤ o.job ∧ o.job < (C.J : Int)) (ho : o.job = (l.getD n default).cap.job) (hq : q.size = 16) (ht : t = true) (hp : (ptrIn q).1 = capP (l.getD n default).cap) (hok : StV C (setJ s o (setQ (s.own o) n q t))) : WInv C l (n + 1) (setJ s o (setQ (s.own o) n q t)) := by
  have hown : StgV C 60 (s.own o) := h.ok.job o.job.toNat (by omega)
  refine ⟨hok, fun k hk => ?_⟩
  unfold St.jv
  rw [setJ_job (by rw [h.ok.nj]; omega)]
  split
  · rename_i e
    rw [setQ_view hown.ok hn hq]
    split
    · rename_i e2; subst e2; first | rw [if_pos ht, hp] | rw [hp]
    · rename_i e2
      have := h.view k (by omega)
      unfold St.jv at this
      rw [e] at this; exact this
  · rename_i e
    have hkn : k ≠ n := fun e2 => e (by rw [e2, ho])
    exact h.view k (by omega)
theorem wit_step (hA : C.Aut) {l : List Der} (hO : DOk C l) (hl : l.length ≤ 60) {n : Nat} (hn : n < l.length) {s : St} (h : WInv C l n s) : WInv C l (n + 1) (runGo C s (wOps l n (l.getD n default))) ∧ ∀ e ∈ errsGo C s (wOps l n (l.getD n default)), e = 0 := by
  have hP := hO.proved n hn
  have hwv : ∀ k d, (l.take n)[k]? = some d → k < n ∧ s.jv d.cap.job.toNat k = some (capP d.cap) := fun k d hk => by
    obtain ⟨h1, h2⟩ := getD_take hk
    have := h.view k h1
    rw [h2] at this; exact ⟨h1, this⟩
  have hspx : ∀ x : Cap, C.chan x 128 = true ∨ C.chan x 32 = true → x.kind = 1 ∧ C.sp ((capP x).seg - 1) = true := fun x hx => by
    have e : (capP x).seg - 1 = x.object := by simp only [capP]; omega
    rw [e]
    unfold CC.chan at hx
    simp only [Bool.and_eq_true, decide_eq_true_eq] at hx
    rcases hx with ⟨⟨a, b⟩, c⟩ | ⟨⟨a, b⟩, c⟩
    · exact ⟨a, b⟩
    · exact ⟨a, b⟩
  have hinc : ∀ (x : Cap) m, C.chan x m = true → C.inc (capP x).auth m = true := fun x m hx => by
    unfold CC.chan at hx
    simp only [Bool.and_eq_true] at hx
    exact hx.2
  generalize hd : l.getD n default = d at hP
  rcases hP.how with ⟨k0, _, _, _, h1, h2, h3⟩ | ⟨k1, _, _, h1, h2, y, hs0, h3, h4, h5, h6⟩ | ⟨k2, y, w, r, hs0, hw0, hr0, h1, h2, h3, h4, h5, h6, h7, h8, h9, h10, h11, h12⟩
  · have hst := stepR (C := C) (s := s) (d := d) (n := n) (by omega) hP.job hP.object (by rw [← h3]; exact h2)
    have hok := step_ok hA h.ok (o := opR d n) (by rw [hst])
    rw [hst] at hok
    have e : wOps l n d = [opR d n] := by unfold wOps; rw [if_pos k0]
    rw [e]
    refine ⟨?_, fun e he => ?_⟩
    · simp only [runGo]
      rw [nextS_ok hst]
      have hj := hP.job
      have ho := hP.object
      have hO' := hA.fit.O
      have ha := hA.au d.cap.job.toNat d.cap.object.toNat (by omega) (by omega)
      refine h.put (by omega) hj (by rw [hd]; rfl) (ptrB_size _) rfl ?_ hok
      rw [ptrIn_ptrB (ptrE_ok.2 ⟨by simp, by simp only; omega, by simp, ha, .inl rfl⟩), hd]
      unfold capP
      rw [h1, h3]
    · simp only [errsGo, List.mem_cons, List.not_mem_nil, or_false] at he
      rw [he, hst]
  · obtain ⟨hsn, hv⟩ := hwv _ _ h3
    rw [h4] at hv
    obtain ⟨hk, hsp⟩ := hspx _ (.inl h6)
    have hst := stepA (C := C) (s := s) (d := d) (n := n) (by omega) hP.job (by omega) hv hk hsp (hinc _ _ h6)
    have hok := step_ok hA h.ok (o := opA d n) (by rw [hst])
    rw [hst] at hok
    have e : wOps l n d = [opA d n] := by unfold wOps; rw [if_neg (by omega), if_pos k1]
    rw [e]
    refine ⟨?_, fun e he => ?_⟩
    · simp only [runGo]
      rw [nextS_ok hst]
      have hj := hP.job
      have ho := hP.object
      have hO' := hA.fit.O
      refine h.put (by omega) hj (by rw [hd]; rfl) (ptrB_size _) rfl ?_ hok
      rw [ptrIn_ptrB (ptrE_ok.2 ⟨by simp, by simp only [capP]; omega, by simp [capP], by simp, by simp⟩), hd]
      unfold capP
      rw [h1, h2, h5]
    · simp only [errsGo, List.mem_cons, List.not_mem_nil, or_false] at he
      rw [he, hst]
  · obtain ⟨hsn, hv⟩ := hwv _ _ h1
    obtain ⟨hwn, hvw⟩ := hwv _ _ h2
    obtain ⟨hrn, hvr⟩ := hwv _ _ h3
    rw [h8] at hvw
    rw [h9] at hvr
    obtain ⟨hkw, hspw⟩ := hspx _ (.inl h11)
    obtain ⟨hkr, hspr⟩ := hspx _ (.inr h12)
    have hyd : l.getD d.source.toNat default = y := (getD_take h1).2
    have hyj : 0 ≤ y.cap.job ∧ y.cap.job < (C.J : Int) := (hO.drv C y (mem_get (by rw [List.getElem?_take] at h1; rwa [if_pos hsn] at h1))).2.1
    have hst := stepSt (C := C) (s := s) (d := d) (y := y) (n := n) (by omega) hyj (by omega) (by omega) hvw hkw hspw (hinc _ _ h11)
    have hok := step_ok hA h.ok (o := opS d y n) (by rw [hst])
    rw [hst] at hok
    have ew : (capP w.cap).seg - 1 = w.cap.object := by simp only [capP]; omega
    have er : (capP r.cap).seg - 1 = w.cap.object := by simp only [capP]; omega
    rw [ew] at hst hok hspw
    obtain ⟨o1, o2⟩ := hA.fit.sp _ hspw
    have hq60 : quadsC C w.cap.object.toNat = 60 := by
      unfold quadsC; rw [show ((w.cap.object.toNat : Nat) : Int) = w.cap.object by omega, if_pos hspw]
    have hspo : StgV C 60 (s.sp w.cap.object.toNat) := by
      have := h.ok.sp w.cap.object.toNat (by omega)
      rw [hq60] at this; exact this
    have hyo : StgV C 60 (s.own (opS d y n)) := h.ok.job y.cap.job.toNat (by omega)
    have hvo : (s.own (opS d y n)).view d.source.toNat = some (capP y.cap) := hv
    obtain ⟨_, htag, hpin, _⟩ := hyo.ok.view hvo
    obtain ⟨t, ht⟩ : ∃ t, setP s w.cap.object.toNat (setQ (s.sp w.cap.object.toNat) n (quadB (s.own (opS d y n)).bytes d.source.toNat) ((s.own (opS d y n)).tag d.source.toNat)) = t := ⟨_, rfl⟩
    rw [ht] at hst hok
    have htj : ∀ j k, t.jv j k = s.jv j k := fun j k => by rw [← ht]; rfl
    have hqs : (quadB (s.own (opS d y n)).bytes d.source.toNat).size = 16 := quadB_size (by rw [hyo.ok.size]; omega)
    have htq : quadB (t.sp w.cap.object.toNat).bytes n = quadB (s.own (opS d y n)).bytes d.source.toNat ∧ (t.sp w.cap.object.toNat).tag n = true := by
      rw [← ht]
      unfold St.sp
      rw [setP_sp (by rw [h.ok.ns]; omega), if_pos rfl]
      have := setQ_quad hspo.ok (k := n) (q := quadB (s.own (opS d y n)).bytes d.source.toNat) (t := (s.own (opS d y n)).tag d.source.toNat) (by omega) hqs n
      rw [if_pos rfl] at this
      have h' := setQ_tag hspo.ok (k := n) (q := quadB (s.own (opS d y n)).bytes d.source.toNat) (t := (s.own (opS d y n)).tag d.source.toNat) (by omega) n
      rw [if_pos rfl] at h'
      exact ⟨this, h'.trans htag⟩
    have hst2 := stepL (C := C) (s := t) (d := d) (n := n) (by omega) hP.job (by omega) (by rw [htj]; exact hvr) hkr hspr (hinc _ _ h12)
    have hok2 := step_ok hA hok (o := opL d n) (by rw [hst2])
    rw [hst2] at hok2
    rw [er] at hst2 hok2
    rw [htq.1, htq.2] at hst2 hok2
    have e : wOps l n d = [opS d y n, opL d n] := by unfold wOps; rw [if_neg (by omega), if_neg (by omega), hyd]
    rw [e]
    refine ⟨?_, fun e he => ?_⟩
    · simp only [runGo]
      rw [nextS_ok hst, nextS_ok hst2]
      refine WInv.put (o := opL d n) ⟨hok, fun k hk => by rw [htj]; exact h.view k hk⟩ (by omega) hP.job (by rw [hd]; rfl) hqs rfl ?_ hok2
      rw [hpin, hd]
      unfold capP
      rw [h5, h6, h7]
    · simp only [errsGo, List.mem_cons, List.not_mem_nil, or_false] at he
      rcases he with he | he
      · rw [he, hst]
      · rw [he, nextS_ok hst, hst2]
theorem runGo_app : ∀ (l m : List COp) (s : St), runGo C s (l ++ m) = runGo C (runGo C s l) m
  | [], m, s => rfl
  | a :: l, m, s => runGo_app l m (nextS C s a)
theorem errsGo_app : ∀ (l m : List COp) (s : St), errsGo C s (l ++ m) = errsGo C s l ++ errsGo C (runGo C s l) m
  | [], m, s => rfl
  | a :: l, m, s => by simp only [List.cons_append, errsGo, runGo, errsGo_app l m]
/-- BEHIND THE OPERATIONS of the first n derivations: no error, and what they derive is held. -/
theorem wit_run (hA : C.Aut) {l : List Der} (hO : DOk C l) (hl : l.length ≤ 60) : ∀ n, n ≤ l.length → WInv C l n (runGo C (startS C) (opsN l n)) ∧ ∀ e ∈ errsGo C (startS C) (opsN l n), e = 0
  | 0, _ => ⟨⟨start_ok C, fun k hk => absurd hk (Nat.not_lt_zero _)⟩, fun e he => by cases he⟩
  | n + 1, hn => by
    obtain ⟨h1, h2⟩ := wit_run hA hO hl n (by omega)
    obtain ⟨h3, h4⟩ := wit_step hA hO hl (n := n) (by omega) h1
    rw [opsN, runGo_app, errsGo_app]
    refine ⟨h3, fun e he => ?_⟩
    rcases List.mem_append.1 he with q | q
    · exact h2 e q
    · exact h4 e q

end Go.Proofs.YtbhgehhmjpipiaaGreat.C12
/- Chapter 12: the plain laws of what is never forged, and of bytes that only destroy. -/
set_option linter.unusedVariables false
set_option linter.unusedSimpArgs false
namespace Go.Proofs.YtbhgehhmjpipiaaGreat.C12
open Go Go.Proofs

variable {C : CC}
/-! ### Never forged -/
theorem Drv.auth {x : Cap} (hA : C.Aut) (h : Drv C x) : 0 ≤ x.auth ∧ x.auth ≤ 1023 := by
  obtain ⟨_, ho, hh⟩ := h.form C hA.fit.sp
  rcases hh with ⟨_, q⟩ | ⟨_, m, hm, q⟩
  · omega
  · rw [q]; exact hA.au m _ hm (by omega)
/-! ### What jobs hold -/
/-- The capability of a pointer of a job. -/
def capOf (j : Nat) (p : Ptr) : Cap := ⟨(j : Int), p.seg - 1, p.kind, p.auth⟩
def Holds (s : St) (n : Nat) (x : Cap) : Prop := ∃ j k p, j < n ∧ s.jv j k = some p ∧ x = capOf j p
theorem wit_holds (hA : C.Aut) {l : List Der} (hO : DOk C l) (hl : l.length ≤ 60) {n : Nat} (hn : n < l.length) : Holds (runGo C (startS C) (opsN l (n + 1))) C.J (l.getD n default).cap := by
  obtain ⟨h1, _⟩ := wit_run hA hO hl (n + 1) (by omega)
  have hv := h1.view n (by omega)
  have hj := (hO.proved n hn).job
  refine ⟨(l.getD n default).cap.job.toNat, n, _, by omega, hv, ?_⟩
  unfold capOf capP
  rw [Cap.ext_iff']
  refine ⟨by simp only; omega, by simp only; omega, rfl, rfl⟩
end Go.Proofs.YtbhgehhmjpipiaaGreat.C12
/- Chapter 12: the plain law of what jobs hold, told in order. -/
set_option linter.unusedVariables false
set_option linter.unusedSimpArgs false
namespace Go.Proofs.YtbhgehhmjpipiaaGreat.C12
open Go Go.Proofs

def putAll : List Cap → List Cap → List Cap
  | m, [] => m
  | m, x :: l => putAll (put m x) l
theorem putAll_mem : ∀ (l m : List Cap) (x : Cap), x ∈ putAll m l ↔ x ∈ m ∨ x ∈ l
  | [], m, x => by simp [putAll]
  | a :: l, m, x => by
    rw [putAll, putAll_mem l, put_mem, List.mem_cons]
    constructor
    · rintro ((h | h) | h)
      · exact .inr (.inl h)
      · exact .inl h
      · exact .inr (.inr h)
    · rintro (h | h | h)
      · exact .inl (.inr h)
      · exact .inl (.inl h)
      · exact .inr h
theorem putAll_sorted : ∀ {l m : List Cap}, Sorted m → Sorted (putAll m l)
  | [], m, h => h
  | a :: l, m, h => putAll_sorted (l := l) (put_sorted h)
theorem putAll_app : ∀ (l k m : List Cap), putAll m (l ++ k) = putAll (putAll m l) k
  | [], k, m => rfl
  | a :: l, k, m => putAll_app l k (put m a)
theorem putAll_len : ∀ (l m : List Cap), (putAll m l).length ≤ m.length + l.length
  | [], m => by simp [putAll]
  | a :: l, m => by
    have := putAll_len l (put m a)
    have h : (put m a).length ≤ m.length + 1 := by
      unfold put; split
      · omega
      · rw [putGo_len]; exact Nat.le_refl _
    simp only [putAll, List.length_cons]; omega
/-- The two orders are the same. -/
theorem held_same {l m : List Cap} (hp : ∀ x, x ∈ m ↔ x ∈ l) (hs : m.Pairwise fun a b => b.lt a = false) : compact m = putAll [] l := by
  refine Sorted.unique (compact_sorted hs) (putAll_sorted (by simp [Sorted])) fun x => ?_
  rw [compact_mem, hp, putAll_mem]; simp

/-- The pointers of a storage, in their order. -/
def ptrsGo (s : Stg) : Nat → Nat → List Ptr
  | 0, _ => []
  | n + 1, k => (match s.view k with | some p => [p] | none => []) ++ ptrsGo s n (k + 1)
def ptrsL (s : Stg) : List Ptr := ptrsGo s s.tags.length 0
theorem ptrsGo_mem {s : Stg} {p : Ptr} : ∀ {n k : Nat}, p ∈ ptrsGo s n k ↔ ∃ i, k ≤ i ∧ i < k + n ∧ s.view i = some p
  | 0, k => by simp [ptrsGo]; intro i h1 h2; omega
  | n + 1, k => by
    rw [ptrsGo, List.mem_append, ptrsGo_mem]
    constructor
    · rintro (h | ⟨i, h1, h2, h3⟩)
      · cases hv : s.view k with
        | none => rw [hv] at h; cases h
        | some q => rw [hv] at h; rw [List.mem_singleton] at h; subst h; exact ⟨k, Nat.le_refl _, by omega, hv⟩
      · exact ⟨i, by omega, by omega, h3⟩
    · rintro ⟨i, h1, h2, h3⟩
      rcases Nat.lt_or_ge k i with q | q
      · exact .inr ⟨i, by omega, by omega, h3⟩
      · have : i = k := by omega
        subst this
        left; rw [h3]; simp
theorem view_lt {s : Stg} {k : Nat} {p : Ptr} (h : s.view k = some p) : k < s.tags.length := by
  unfold Stg.view Stg.tag at h
  split at h
  · rename_i q
    rcases Nat.lt_or_ge k s.tags.length with r | r
    · exact r
    · rw [List.getD_eq_getElem?_getD, List.getElem?_eq_none r] at q; cases q
  · cases h
theorem ptrsL_mem {s : Stg} {p : Ptr} : p ∈ ptrsL s ↔ ∃ k, s.view k = some p := by
  unfold ptrsL
  rw [ptrsGo_mem]
  exact ⟨fun ⟨i, _, _, h⟩ => ⟨i, h⟩, fun ⟨i, h⟩ => ⟨i, Nat.zero_le _, by rw [Nat.zero_add]; exact view_lt h, h⟩⟩
def heldGo : List Stg → Nat → List Cap
  | [], _ => []
  | x :: l, j => (ptrsL x).map (capOf j) ++ heldGo l (j + 1)
/-- The capabilities of the pointers of all jobs, in their order. -/
def heldL (s : St) : List Cap := heldGo s.jobs 0
theorem heldGo_mem {x : Cap} : ∀ {l : List Stg} {j : Nat}, x ∈ heldGo l j ↔ ∃ i k p, i < l.length ∧ (l.getD i default).view k = some p ∧ x = capOf (j + i) p
  | [], j => by simp [heldGo]
  | a :: l, j => by
    rw [heldGo, List.mem_append, heldGo_mem, List.mem_map]
    constructor
    · rintro (⟨p, hp, rfl⟩ | ⟨i, k, p, h1, h2, h3⟩)
      · obtain ⟨k, hk⟩ := ptrsL_mem.1 hp
        exact ⟨0, k, p, by simp, hk, rfl⟩
      · exact ⟨i + 1, k, p, by simp; omega, by simpa using h2, by rw [h3]; congr 1; omega⟩
    · rintro ⟨i, k, p, h1, h2, h3⟩
      cases i with
      | zero => exact .inl ⟨p, ptrsL_mem.2 ⟨k, h2⟩, h3.symm⟩
      | succ i => exact .inr ⟨i, k, p, by simpa using h1, by simpa using h2, by rw [h3]; congr 1; omega⟩
theorem heldL_mem {s : St} {x : Cap} : x ∈ heldL s ↔ Holds s s.jobs.length x := by
  unfold heldL Holds St.jv
  rw [heldGo_mem]
  constructor
  · rintro ⟨i, k, p, h1, h2, h3⟩; exact ⟨i, k, p, h1, h2, by rw [h3, Nat.zero_add]⟩
  · rintro ⟨i, k, p, h1, h2, h3⟩; exact ⟨i, k, p, h1, h2, by rw [h3, Nat.zero_add]⟩
def rHeld (s : St) : List Cap := putAll [] (heldL s)
theorem rHeld_mem {s : St} {x : Cap} : x ∈ rHeld s ↔ Holds s s.jobs.length x := by
  unfold rHeld
  rw [putAll_mem, heldL_mem]; simp
theorem rHeld_sorted (s : St) : Sorted (rHeld s) := putAll_sorted (by simp [Sorted])

end Go.Proofs.YtbhgehhmjpipiaaGreat.C12
