/- Chapter 6: the plain law of disks: parity, failures, rebuilding, power failures. -/
set_option linter.unusedVariables false
set_option linter.unusedSimpArgs false
namespace Go.Proofs.Ytdfdagfgkijpcaa.C06

structure DU where
  state : Int
  secs : List ByteArray
deriving Inhabited, DecidableEq
structure Disk where
  kind : Int
  size : Int
  units : List DU
deriving Inhabited, DecidableEq
structure SW where
  sector : Int
  bytes : ByteArray
deriving Inhabited, DecidableEq
structure UW where
  unit : Int
  sector : Int
  bytes : ByteArray
deriving Inhabited, DecidableEq

/-! ### Bytes -/
def bat (s : ByteArray) (i : Nat) : UInt8 := s.data.toList.getD i 0
def mk16 (f : Nat → UInt8) : ByteArray := ⟨((List.range 16).map f).toArray⟩
def xorB (a b : ByteArray) : ByteArray := mk16 fun i => bat a i ^^^ bat b i
def zeroB : ByteArray := mk16 fun _ => 0
def xorL (l : List ByteArray) : ByteArray := mk16 fun i => l.foldl (fun c s => c ^^^ bat s i) 0

theorem size_mk16 (f : Nat → UInt8) : (mk16 f).size = 16 := by simp [mk16, ByteArray.size]
theorem bat_mk16 (f : Nat → UInt8) {i : Nat} (h : i < 16) : bat (mk16 f) i = f i := by
  simp [bat, mk16, List.getD_eq_getElem?_getD, h]
theorem ext16 {a b : ByteArray} (ha : a.size = 16) (hb : b.size = 16) (h : ∀ i, i < 16 → bat a i = bat b i) : a = b := by
  obtain ⟨a⟩ := a
  obtain ⟨b⟩ := b
  congr 1
  have ha' : a.size = 16 := ha
  have hb' : b.size = 16 := hb
  apply Array.ext (by omega)
  intro i h1 h2
  have := h i (by omega)
  simp only [bat, List.getD_eq_getElem?_getD, Array.getElem?_toList, Array.getElem?_eq_getElem h1, Array.getElem?_eq_getElem h2, Option.getD_some] at this
  exact this
theorem size_xorB (a b : ByteArray) : (xorB a b).size = 16 := size_mk16 _
theorem size_zeroB : zeroB.size = 16 := size_mk16 _
theorem bat_xorB (a b : ByteArray) {i : Nat} (h : i < 16) : bat (xorB a b) i = bat a i ^^^ bat b i := bat_mk16 _ h
theorem bat_zeroB {i : Nat} (h : i < 16) : bat zeroB i = 0 := bat_mk16 _ h
theorem xorL_two (a b : ByteArray) : xorL [a, b] = xorB a b := by
  unfold xorL xorB
  congr 1; funext i; simp

def xr (l : List UInt8) : UInt8 := l.foldr (· ^^^ ·) 0
theorem xr_nil : xr [] = 0 := rfl
theorem xr_cons (a : UInt8) (l : List UInt8) : xr (a :: l) = a ^^^ xr l := rfl
theorem foldl_xr (l : List ByteArray) (c : UInt8) (i : Nat) : l.foldl (fun c s => c ^^^ bat s i) c = c ^^^ xr (l.map (bat · i)) := by
  induction l generalizing c with
  | nil => simp [xr_nil]
  | cons a l ih => simp only [List.foldl_cons, ih, List.map_cons, xr_cons, UInt8.xor_assoc]
theorem bat_xorL (l : List ByteArray) {i : Nat} (h : i < 16) : bat (xorL l) i = xr (l.map (bat · i)) := by
  rw [xorL, bat_mk16 _ h, foldl_xr, UInt8.zero_xor]
theorem size_xorL (l : List ByteArray) : (xorL l).size = 16 := size_mk16 _
theorem foldl_xorB_bat (l : List ByteArray) (a : ByteArray) {i : Nat} (h : i < 16) : bat (l.foldl xorB a) i = bat a i ^^^ xr (l.map (bat · i)) := by
  induction l generalizing a with
  | nil => simp [xr_nil]
  | cons x l ih => simp only [List.foldl_cons, ih, List.map_cons, xr_cons, bat_xorB _ _ h, UInt8.xor_assoc]
theorem foldl_xorB_size (l : List ByteArray) (a : ByteArray) (ha : a.size = 16) : (l.foldl xorB a).size = 16 := by
  induction l generalizing a with
  | nil => exact ha
  | cons x l ih => exact ih _ (size_xorB _ _)
theorem foldl_xorB (l : List ByteArray) : l.foldl xorB zeroB = xorL l := by
  refine ext16 (foldl_xorB_size _ _ size_zeroB) (size_xorL _) fun i hi => ?_
  rw [foldl_xorB_bat _ _ hi, bat_zeroB hi, bat_xorL _ hi, UInt8.zero_xor]
theorem xr_append (a b : List UInt8) : xr (a ++ b) = xr a ^^^ xr b := by
  induction a with
  | nil => simp [xr_nil]
  | cons x a ih => simp only [List.cons_append, xr_cons, ih, UInt8.xor_assoc]
/-- One taken out. -/
theorem xr_out {l : List Nat} {u : Nat} (hn : l.Nodup) (hu : u ∈ l) (g : Nat → UInt8) : xr (l.map g) = g u ^^^ xr ((l.filter (fun j => !decide (j = u))).map g) := by
  induction l with
  | nil => cases hu
  | cons x l ih =>
    rw [List.nodup_cons] at hn
    simp only [List.map_cons, xr_cons]
    by_cases hx : x = u
    · subst hx
      have : (x :: l).filter (fun j => !decide (j = x)) = l := by
        simp only [List.filter_cons, decide_true, Bool.not_true, Bool.false_eq_true, if_false]
        apply List.filter_eq_self.2
        intro y hy
        have : y ≠ x := fun q => hn.1 (q ▸ hy)
        simp [this]
      rw [this]
    · have hu' : u ∈ l := by
        rcases List.mem_cons.1 hu with q | q
        · exact absurd q.symm hx
        · exact q
      rw [ih hn.2 hu']
      simp only [List.filter_cons, hx, decide_false, Bool.not_false, if_true, List.map_cons, xr_cons]
      rw [← UInt8.xor_assoc, UInt8.xor_comm (g x) (g u), UInt8.xor_assoc]
theorem xr_self (a b : UInt8) : a ^^^ (a ^^^ b) = b := by rw [← UInt8.xor_assoc, UInt8.xor_self, UInt8.zero_xor]
/-- What the others give, where all give zero. -/
theorem xr_rest {l : List Nat} {u : Nat} (hn : l.Nodup) (hu : u ∈ l) (g : Nat → UInt8) (h0 : xr (l.map g) = 0) : xr ((l.filter (fun j => !decide (j = u))).map g) = g u := by
  have := xr_out hn hu g
  rw [h0] at this
  have h2 := congrArg (g u ^^^ ·) this
  simp only [xr_self, UInt8.xor_zero] at h2
  exact h2.symm

/-! ### Disks -/
def Disk.n (d : Disk) : Nat := d.units.length
def Disk.at (d : Disk) (j : Nat) : DU := d.units.getD j default
def Disk.sec (d : Disk) (j k : Nat) : ByteArray := (d.at j).secs.getD k default
def Disk.sz (d : Disk) : Nat := d.size.toNat
/-- The unit of the k-th data sector of a stripe, past the parity. -/
def plU (p k : Nat) : Nat := if p ≤ k then k + 1 else k
def Disk.pA (d : Disk) (s : Nat) : Nat := if d.kind = 2 then s / (d.n - 1) else s
def Disk.pP (d : Disk) (s : Nat) : Nat := d.pA s % d.n
def Disk.pU (d : Disk) (s : Nat) : Nat := if d.kind = 2 then plU (d.pP s) (s % (d.n - 1)) else 0
def Disk.count (d : Disk) : Nat := if d.kind = 2 then d.sz * (d.n - 1) else d.sz

def rest (n but : Nat) : List Nat := (List.range n).filter fun j => !decide (j = but)
def Disk.others (d : Disk) (but k : Nat) : Option ByteArray := if (rest d.n but).all (fun j => decide ((d.at j).state = 0)) = true then some (xorL ((rest d.n but).map fun j => d.sec j k)) else none
def Disk.read (d : Disk) (s : Nat) : Option ByteArray :=
  if (d.at (d.pU s)).state = 0 then some (d.sec (d.pU s) (d.pA s)) else if d.kind = 1 ∧ (d.at 1).state = 0 then some (d.sec 1 (d.pA s)) else if d.kind = 2 then d.others (d.pU s) (d.pA s) else none
/-- The other sectors of a stripe. -/
def Disk.mates (d : Disk) (s : Nat) : List Nat := (List.range' (d.pA s * (d.n - 1)) (d.n - 1)).filter fun i => !decide (i = s)
def sumGo (d : Disk) : List Nat → ByteArray → Option ByteArray
  | [], b => some b
  | i :: l, b => match d.read i with
    | some c => sumGo d l (xorB b c)
    | none => none
def Disk.sum (d : Disk) (s : Nat) (b : ByteArray) : Option ByteArray := sumGo d (d.mates s) b
def Disk.plainW (d : Disk) (s : Nat) (b : ByteArray) : List UW := ((List.range d.n).filter fun i => !decide ((d.at i).state = 1)).map fun (i : Nat) => ⟨i, s, b⟩
def Disk.dataW (d : Disk) (s : Nat) (b : ByteArray) : List UW := if (d.at (d.pU s)).state = 1 then [] else [⟨(d.pU s : Nat), (d.pA s : Nat), b⟩]
def okW (l : List UW) : Option (List UW) := if l = [] then none else some l
def Disk.writes (d : Disk) (s : Nat) (b : ByteArray) : Option (List UW) :=
  if d.kind = 2 then if (d.at (d.pP s)).state = 1 then okW (d.dataW s b) else match d.sum s b with
    | some c => some (d.dataW s b ++ [⟨(d.pP s : Nat), (d.pA s : Nat), c⟩])
    | none => none
  else okW (d.plainW s b)
def put1 (d : Disk) (x : UW) : Disk := { d with units := d.units.set x.unit.toNat { d.at x.unit.toNat with secs := (d.at x.unit.toNat).secs.set x.sector.toNat x.bytes } }
def made (d : Disk) (l : List UW) : Disk := l.foldl put1 d

@[simp] theorem put1_kind (d : Disk) (x : UW) : (put1 d x).kind = d.kind := rfl
@[simp] theorem put1_size (d : Disk) (x : UW) : (put1 d x).size = d.size := rfl
@[simp] theorem put1_n (d : Disk) (x : UW) : (put1 d x).n = d.n := by simp [put1, Disk.n]
theorem made_same (l : List UW) : ∀ d : Disk, (made d l).kind = d.kind ∧ (made d l).size = d.size ∧ (made d l).n = d.n := by
  induction l with
  | nil => intro d; exact ⟨rfl, rfl, rfl⟩
  | cons x l ih => intro d; obtain ⟨h1, h2, h3⟩ := ih (put1 d x); exact ⟨h1, h2, by rw [← put1_n d x]; exact h3⟩
theorem made_append (d : Disk) (l m : List UW) : made d (l ++ m) = made (made d l) m := List.foldl_append ..

theorem at_put1 (d : Disk) (x : UW) (j : Nat) (hj : j < d.n) : (put1 d x).at j = if x.unit.toNat = j then { d.at j with secs := (d.at j).secs.set x.sector.toNat x.bytes } else d.at j := by
  unfold Disk.n at hj
  simp only [put1, Disk.at, List.getD_eq_getElem?_getD, List.getElem?_set]
  by_cases h : x.unit.toNat = j
  · subst h
    simp [hj]
  · simp [h]
theorem state_put1 (d : Disk) (x : UW) (j : Nat) (hj : j < d.n) : ((put1 d x).at j).state = (d.at j).state := by
  rw [at_put1 d x j hj]; split <;> rfl
theorem len_put1 (d : Disk) (x : UW) (j : Nat) (hj : j < d.n) : ((put1 d x).at j).secs.length = (d.at j).secs.length := by
  rw [at_put1 d x j hj]; split <;> simp
theorem sec_put1 (d : Disk) (x : UW) (j k : Nat) (hj : j < d.n) (hk : k < (d.at j).secs.length) : (put1 d x).sec j k = if x.unit.toNat = j ∧ x.sector.toNat = k then x.bytes else d.sec j k := by
  simp only [Disk.sec, at_put1 d x j hj]
  by_cases h : x.unit.toNat = j
  · simp only [h, if_true, true_and, List.getD_eq_getElem?_getD, List.getElem?_set]
    by_cases h2 : x.sector.toNat = k
    · subst h2; simp [hk]
    · simp [h2]
  · simp [h]

/-- All units are read, and have their sectors. -/
structure Whole (d : Disk) : Prop where
  kind : d.kind = 0 ∨ d.kind = 1 ∨ d.kind = 2
  n0 : d.kind = 0 → d.n = 1
  n1 : d.kind = 1 → d.n = 2
  n2 : d.kind = 2 → 3 ≤ d.n ∧ d.n ≤ 5
  size : 1 ≤ d.size ∧ d.size ≤ 10
  state : ∀ j, j < d.n → (d.at j).state = 0
  len : ∀ j, j < d.n → (d.at j).secs.length = d.sz
  s16 : ∀ j k, j < d.n → k < d.sz → (d.sec j k).size = 16
structure Red (d : Disk) : Prop extends Whole d where
  mir : d.kind = 1 → ∀ k, k < d.sz → d.sec 0 k = d.sec 1 k
  par : d.kind = 2 → ∀ k, k < d.sz → ∀ i, i < 16 → xr ((List.range d.n).map fun j => bat (d.sec j k) i) = 0

/-- One unit, and no other one, is not read. -/
structure Sim (u : Nat) (D d : Disk) : Prop where
  kind : d.kind = D.kind
  size : d.size = D.size
  n : d.n = D.n
  lt : u < D.n
  other : ∀ j, j < D.n → j ≠ u → d.at j = D.at j
  state : (d.at u).state = 1 ∨ (d.at u).state = 2
  gone : (d.at u).state = 1 → (d.at u).secs = []
  fresh : (d.at u).state = 2 → (d.at u).secs.length = D.sz

section
variable {u : Nat} {D d : Disk}
theorem Sim.pA (h : Sim u D d) (s : Nat) : d.pA s = D.pA s := by simp only [Disk.pA, h.kind, h.n]
theorem Sim.pP (h : Sim u D d) (s : Nat) : d.pP s = D.pP s := by simp only [Disk.pP, h.pA, h.n]
theorem Sim.pU (h : Sim u D d) (s : Nat) : d.pU s = D.pU s := by simp only [Disk.pU, h.pP, h.kind, h.n]
theorem Sim.sz (h : Sim u D d) : d.sz = D.sz := by simp only [Disk.sz, h.size]
theorem Sim.count (h : Sim u D d) : d.count = D.count := by simp only [Disk.count, h.sz, h.kind, h.n]
theorem Sim.sec (h : Sim u D d) {j k : Nat} (hj : j < D.n) (hu : j ≠ u) : d.sec j k = D.sec j k := by simp only [Disk.sec, h.other j hj hu]
end

theorem Whole.pA_lt {d : Disk} (h : Whole d) {s : Nat} (hs : s < d.count) : d.pA s < d.sz := by
  unfold Disk.pA
  unfold Disk.count at hs
  split
  · rename_i hk
    rw [if_pos hk] at hs
    exact Nat.div_lt_of_lt_mul (by rw [Nat.mul_comm]; exact hs)
  · rename_i hk
    rwa [if_neg hk] at hs
theorem Whole.pU_lt {d : Disk} (h : Whole d) (s : Nat) : d.pU s < d.n := by
  unfold Disk.pU
  split
  · rename_i hk
    have := h.n2 hk
    have h2 : s % (d.n - 1) < d.n - 1 := Nat.mod_lt _ (by omega)
    unfold plU; split <;> omega
  · rename_i hk
    rcases h.kind with q | q | q
    · have := h.n0 q; omega
    · have := h.n1 q; omega
    · exact absurd q hk
theorem Whole.pP_lt {d : Disk} (h : Whole d) (s : Nat) : d.pP s < d.n := by
  refine Nat.mod_lt _ ?_
  have := h.pU_lt 0; omega
theorem Disk.pU_ne {d : Disk} (hk : d.kind = 2) (s : Nat) : d.pU s ≠ d.pP s := by
  unfold Disk.pU
  rw [if_pos hk]
  unfold plU; split <;> omega

theorem mem_rest {n but j : Nat} : j ∈ rest n but ↔ j < n ∧ j ≠ but := by simp [rest]

/-- What the other units give. -/
theorem Red.rest_eq {D : Disk} (h : Red D) (hk : D.kind = 2) {u k : Nat} (hu : u < D.n) (hk2 : k < D.sz) : xorL ((rest D.n u).map fun j => D.sec j k) = D.sec u k := by
  refine ext16 (size_xorL _) (h.s16 u k hu hk2) fun i hi => ?_
  rw [bat_xorL _ hi, List.map_map]
  exact xr_rest (g := fun j => bat (D.sec j k) i) List.nodup_range (List.mem_range.2 hu) (h.par hk k hk2 i hi)
theorem Red.mirror_rest {D : Disk} (h : Red D) (hk : D.kind = 1) {u k : Nat} (hu : u < D.n) (hk2 : k < D.sz) : xorL ((rest D.n u).map fun j => D.sec j k) = D.sec u k := by
  have hn := h.n1 hk
  have key : ∀ b : ByteArray, b.size = 16 → xorL [b] = b := fun b hb => ext16 (size_xorL _) hb fun i hi => by rw [bat_xorL _ hi]; simp [xr]
  have hm := h.mir hk k hk2
  rcases Nat.lt_or_ge u 1 with q | q
  · have : u = 0 := by omega
    subst this
    rw [hn, show rest 2 0 = [1] by decide]
    rw [List.map_cons, List.map_nil, key _ (h.s16 1 k (by omega) hk2), hm]
  · have : u = 1 := by omega
    subst this
    rw [hn, show rest 2 1 = [0] by decide]
    rw [List.map_cons, List.map_nil, key _ (h.s16 0 k (by omega) hk2), hm]

theorem Sim.others {u : Nat} {D d : Disk} (h : Sim u D d) (hR : Red D) (hk : D.kind ≠ 0) {k : Nat} (hk2 : k < D.sz) : d.others u k = some (D.sec u k) := by
  unfold Disk.others
  rw [if_pos]
  · congr 1
    rw [h.n]
    have e : (rest D.n u).map (fun j => d.sec j k) = (rest D.n u).map fun j => D.sec j k := List.map_congr_left fun j hj => by
      obtain ⟨h1, h2⟩ := mem_rest.1 hj
      exact h.sec h1 h2
    rw [e]
    rcases hR.kind with q | q | q
    · exact absurd q hk
    · exact hR.mirror_rest q h.lt hk2
    · exact hR.rest_eq q h.lt hk2
  · rw [List.all_eq_true]
    intro j hj
    obtain ⟨h1, h2⟩ := mem_rest.1 hj
    rw [h.n] at h1
    rw [h.other j h1 h2, hR.state j h1]
    rfl

theorem Whole.read {D : Disk} (h : Whole D) {s : Nat} : D.read s = some (D.sec (D.pU s) (D.pA s)) := by
  unfold Disk.read
  rw [if_pos (h.state _ (h.pU_lt s))]

/-- ONE FAILURE HIDES NOTHING. -/
theorem Sim.read {u : Nat} {D d : Disk} (h : Sim u D d) (hR : Red D) (hk : D.kind ≠ 0) {s : Nat} (hs : s < D.count) : d.read s = D.read s := by
  have hA := hR.pA_lt hs
  have hU := hR.pU_lt s
  rw [hR.read]
  unfold Disk.read
  rw [h.pU, h.pA, h.kind]
  by_cases hu : D.pU s = u
  · have hst : ¬ (d.at (D.pU s)).state = 0 := by rw [hu]; rcases h.state with q | q <;> omega
    rw [if_neg hst]
    rcases hR.kind with q | q | q
    · exact absurd q hk
    · have h0 : D.pU s = 0 := by unfold Disk.pU; rw [if_neg (by omega)]
      have hn := hR.n1 q
      have h1 : d.at 1 = D.at 1 := h.other 1 (by omega) (by omega)
      rw [if_pos ⟨q, by rw [h1]; exact hR.state 1 (by omega)⟩, h.sec (by omega) (by omega), h0, hR.mir q _ hA]
    · rw [if_neg (by omega), if_pos q, hu]
      exact h.others hR hk hA
  · rw [h.other _ hU hu, if_pos (hR.state _ hU), h.sec hU hu]

/-! ### Writes -/
theorem mem_mates {d : Disk} {s i : Nat} : i ∈ d.mates s ↔ (d.pA s * (d.n - 1) ≤ i ∧ i < d.pA s * (d.n - 1) + (d.n - 1)) ∧ i ≠ s := by simp [Disk.mates]
theorem sumGo_some {d : Disk} {g : Nat → ByteArray} : ∀ {l : List Nat} {b : ByteArray}, (∀ i ∈ l, d.read i = some (g i)) → sumGo d l b = some ((l.map g).foldl xorB b)
  | [], b, _ => rfl
  | i :: l, b, h => by
    simp only [sumGo, h i (List.mem_cons_self ..), List.map_cons, List.foldl_cons]
    exact sumGo_some fun j hj => h j (List.mem_cons_of_mem _ hj)
theorem sumGo_congr {d D : Disk} : ∀ {l : List Nat} {b : ByteArray}, (∀ i ∈ l, d.read i = D.read i) → sumGo d l b = sumGo D l b
  | [], b, _ => rfl
  | i :: l, b, h => by
    simp only [sumGo, h i (List.mem_cons_self ..)]
    cases D.read i with
    | none => rfl
    | some c => exact sumGo_congr fun j hj => h j (List.mem_cons_of_mem _ hj)

theorem stripe {m a k : Nat} (hk : k < m) : (a * m + k) / m = a ∧ (a * m + k) % m = k := by
  constructor
  · rw [Nat.mul_comm, Nat.mul_add_div (by omega), Nat.div_eq_of_lt hk, Nat.add_zero]
  · rw [Nat.mul_comm, Nat.mul_add_mod, Nat.mod_eq_of_lt hk]

theorem Disk.pA2 {D : Disk} (hk : D.kind = 2) (i : Nat) : D.pA i = i / (D.n - 1) := by unfold Disk.pA; rw [if_pos hk]
theorem mates_lt {D : Disk} (h : Whole D) (hk : D.kind = 2) {s i : Nat} (hs : s < D.count) (hi : i ∈ D.mates s) : i < D.count ∧ D.pA i = D.pA s := by
  obtain ⟨⟨h1, h2⟩, _⟩ := mem_mates.1 hi
  have hA := h.pA_lt hs
  have hn := h.n2 hk
  have e : i = D.pA s * (D.n - 1) + (i - D.pA s * (D.n - 1)) := by omega
  have hp : D.pA i = D.pA s := by
    have : i / (D.n - 1) = D.pA s := by rw [e]; exact (stripe (by omega)).1
    conv => lhs; unfold Disk.pA
    rw [if_pos hk, this]
  refine ⟨?_, hp⟩
  unfold Disk.count
  rw [if_pos hk]
  calc i < D.pA s * (D.n - 1) + (D.n - 1) := h2
    _ = (D.pA s + 1) * (D.n - 1) := by rw [Nat.succ_mul]
    _ ≤ D.sz * (D.n - 1) := Nat.mul_le_mul_right _ hA

def pairsOk : Bool := (List.range 6).all fun n => (List.range n).all fun p => (List.range (n - 1)).all fun k => decide (((List.range (n - 1)).filter (fun j => !decide (j = k))).map (plU p) = (rest n (plU p k)).filter (fun j => !decide (j = p)))
theorem pairs : pairsOk = true := by decide +kernel
theorem pairs_at {n p k : Nat} (hn : n ≤ 5) (hp : p < n) (hk : k < n - 1) : ((List.range (n - 1)).filter (fun j => !decide (j = k))).map (plU p) = (rest n (plU p k)).filter (fun j => !decide (j = p)) := by
  have h1 := List.all_eq_true.1 pairs n (List.mem_range.2 (by omega))
  have h2 := List.all_eq_true.1 h1 p (List.mem_range.2 hp)
  have h3 := List.all_eq_true.1 h2 k (List.mem_range.2 hk)
  exact of_decide_eq_true h3

theorem range'_eq (a m : Nat) : List.range' a m = (List.range m).map (a + ·) := by
  rw [List.range_eq_range', List.map_add_range']; simp

/-- The units of a stripe's other data sectors. -/
theorem mates_units {D : Disk} (h : Whole D) (hk : D.kind = 2) {s : Nat} (hs : s < D.count) : (D.mates s).map D.pU = (rest D.n (D.pU s)).filter (fun j => !decide (j = D.pP s)) := by
  have hn := h.n2 hk
  have hA := h.pA_lt hs
  have hp := h.pP_lt s
  have e0 : s / (D.n - 1) = D.pA s := by unfold Disk.pA; rw [if_pos hk]
  have hks : s % (D.n - 1) < D.n - 1 := Nat.mod_lt _ (by omega)
  have es : s = D.pA s * (D.n - 1) + s % (D.n - 1) := by rw [← e0, Nat.mul_comm]; exact (Nat.div_add_mod s (D.n - 1)).symm
  have hU : ∀ k, k < D.n - 1 → D.pU (D.pA s * (D.n - 1) + k) = plU (D.pP s) k := fun k hk2 => by
    obtain ⟨q1, q2⟩ := stripe (m := D.n - 1) (a := D.pA s) hk2
    have hA2 : D.pA (D.pA s * (D.n - 1) + k) = D.pA s := by rw [Disk.pA2 hk (D.pA s * (D.n - 1) + k), q1]
    unfold Disk.pU
    rw [if_pos hk, q2]
    unfold Disk.pP
    rw [hA2]
  have hUs : D.pU s = plU (D.pP s) (s % (D.n - 1)) := by unfold Disk.pU; rw [if_pos hk]
  rw [hUs, ← pairs_at hn.2 hp hks]
  unfold Disk.mates
  rw [range'_eq, List.filter_map, List.map_map]
  have ef : (List.range (D.n - 1)).filter ((fun i => !decide (i = s)) ∘ (D.pA s * (D.n - 1) + ·)) = (List.range (D.n - 1)).filter (fun j => !decide (j = s % (D.n - 1))) := by
    apply List.filter_congr
    intro k hk2
    simp only [Function.comp, Bool.not_eq_eq_eq_not, Bool.not_not]
    congr 1
    by_cases q : k = s % (D.n - 1)
    · simp [q, ← es]
    · have : ¬ D.pA s * (D.n - 1) + k = s := by omega
      simp [q, this]
  rw [ef]
  apply List.map_congr_left
  intro k hk2
  have := (List.mem_filter.1 hk2).1
  exact hU k (List.mem_range.1 this)

/-- The new parity. -/
def Disk.par (D : Disk) (s : Nat) (b : ByteArray) : ByteArray := ((D.mates s).map fun i => D.sec (D.pU i) (D.pA i)).foldl xorB b
theorem Whole.sum {D : Disk} (h : Whole D) (hk : D.kind = 2) {s : Nat} (hs : s < D.count) (b : ByteArray) : D.sum s b = some (D.par s b) := sumGo_some fun i hi => h.read
theorem par_bat {D : Disk} (h : Whole D) (hk : D.kind = 2) {s : Nat} (hs : s < D.count) (b : ByteArray) {i : Nat} (hi : i < 16) :
    bat (D.par s b) i = bat b i ^^^ xr (((rest D.n (D.pU s)).filter (fun j => !decide (j = D.pP s))).map fun j => bat (D.sec j (D.pA s)) i) := by
  unfold Disk.par
  rw [foldl_xorB_bat _ _ hi, ← mates_units h hk hs, List.map_map, List.map_map]
  congr 2
  apply List.map_congr_left
  intro k hk2
  simp only [Function.comp]
  rw [(mates_lt h hk hs hk2).2]
theorem par_size {D : Disk} (s : Nat) {b : ByteArray} (hb : b.size = 16) : (D.par s b).size = 16 := foldl_xorB_size _ _ hb

/-- The disk behind a write. -/
def Disk.wr (D : Disk) (s : Nat) (b : ByteArray) : Disk := match D.writes s b with
  | some l => made D l
  | none => D

theorem dataW_act {D : Disk} (h : Whole D) (s : Nat) (b : ByteArray) : D.dataW s b = [⟨(D.pU s : Nat), (D.pA s : Nat), b⟩] := by
  unfold Disk.dataW; rw [if_neg (by rw [h.state _ (h.pU_lt s)]; decide)]
theorem Whole.writes2 {D : Disk} (h : Whole D) (hk : D.kind = 2) {s : Nat} (hs : s < D.count) (b : ByteArray) : D.writes s b = some [⟨(D.pU s : Nat), (D.pA s : Nat), b⟩, ⟨(D.pP s : Nat), (D.pA s : Nat), D.par s b⟩] := by
  unfold Disk.writes
  rw [if_pos hk, if_neg (by rw [h.state _ (h.pP_lt s)]; decide), h.sum hk hs, dataW_act h]; rfl
theorem Whole.writes1 {D : Disk} (h : Whole D) (hk : D.kind = 1) {s : Nat} (b : ByteArray) : D.writes s b = some [⟨0, s, b⟩, ⟨1, s, b⟩] := by
  have hn := h.n1 hk
  unfold Disk.writes
  rw [if_neg (by omega)]
  unfold Disk.plainW
  rw [hn, show List.range 2 = [0, 1] by decide]
  simp only [List.filter_cons, h.state 0 (by omega), h.state 1 (by omega)]
  simp [okW]
theorem Whole.writes0 {D : Disk} (h : Whole D) (hk : D.kind = 0) {s : Nat} (b : ByteArray) : D.writes s b = some [⟨0, s, b⟩] := by
  have hn := h.n0 hk
  unfold Disk.writes
  rw [if_neg (by omega)]
  unfold Disk.plainW
  rw [hn, show List.range 1 = [0] by decide]
  simp only [List.filter_cons, h.state 0 (by omega)]
  simp [okW]

/-! ### One write, to a whole disk and to one of which a unit is not read -/
theorem nat_uw (u k : Nat) (b : ByteArray) : (⟨(u : Int), (k : Int), b⟩ : UW).unit.toNat = u ∧ (⟨(u : Int), (k : Int), b⟩ : UW).sector.toNat = k := ⟨Int.toNat_natCast u, Int.toNat_natCast k⟩

structure Keeps (D D' : Disk) : Prop where
  kind : D'.kind = D.kind
  size : D'.size = D.size
  n : D'.n = D.n
theorem Keeps.pA {D D' : Disk} (h : Keeps D D') (s : Nat) : D'.pA s = D.pA s := by simp only [Disk.pA, h.kind, h.n]
theorem Keeps.pP {D D' : Disk} (h : Keeps D D') (s : Nat) : D'.pP s = D.pP s := by simp only [Disk.pP, h.pA, h.n]
theorem Keeps.pU {D D' : Disk} (h : Keeps D D') (s : Nat) : D'.pU s = D.pU s := by simp only [Disk.pU, h.pP, h.kind, h.n]
theorem Keeps.sz {D D' : Disk} (h : Keeps D D') : D'.sz = D.sz := by simp only [Disk.sz, h.size]
theorem Keeps.count {D D' : Disk} (h : Keeps D D') : D'.count = D.count := by simp only [Disk.count, h.sz, h.kind, h.n]
theorem keeps_made (d : Disk) (l : List UW) : Keeps d (made d l) := by obtain ⟨h1, h2, h3⟩ := made_same l d; exact ⟨h1, h2, h3⟩

theorem made_state (l : List UW) : ∀ (d : Disk) (j : Nat), j < d.n → ((made d l).at j).state = (d.at j).state ∧ ((made d l).at j).secs.length = (d.at j).secs.length := by
  induction l with
  | nil => intro d j _; exact ⟨rfl, rfl⟩
  | cons x l ih =>
    intro d j hj
    obtain ⟨h1, h2⟩ := ih (put1 d x) j (by rw [put1_n]; exact hj)
    exact ⟨h1.trans (state_put1 d x j hj), h2.trans (len_put1 d x j hj)⟩

/-- What stands in a sector behind some writes: what stood there, or the bytes of a write to it. -/
theorem made_sec (l : List UW) : ∀ (d : Disk) (j k : Nat), j < d.n → k < (d.at j).secs.length → (made d l).sec j k = d.sec j k ∨ ∃ x ∈ l, x.unit.toNat = j ∧ x.sector.toNat = k ∧ (made d l).sec j k = x.bytes := by
  induction l with
  | nil => intro d j k _ _; exact .inl rfl
  | cons x l ih =>
    intro d j k hj hk
    rcases ih (put1 d x) j k (by rw [put1_n]; exact hj) (by rw [len_put1 d x j hj]; exact hk) with h | ⟨y, hy, h1, h2, h3⟩
    · have e : made d (x :: l) = made (put1 d x) l := rfl
      rw [e, h, sec_put1 d x j k hj hk]
      split
      · rename_i q; exact .inr ⟨x, List.mem_cons_self .., q.1, q.2, rfl⟩
      · exact .inl rfl
    · exact .inr ⟨y, List.mem_cons_of_mem _ hy, h1, h2, h3⟩
/-- Where none writes. -/
theorem made_none {l : List UW} {d : Disk} {j k : Nat} (hj : j < d.n) (hk : k < (d.at j).secs.length) (h : ∀ x ∈ l, ¬ (x.unit.toNat = j ∧ x.sector.toNat = k)) : (made d l).sec j k = d.sec j k := by
  rcases made_sec l d j k hj hk with q | ⟨x, hx, h1, h2, _⟩
  · exact q
  · exact absurd ⟨h1, h2⟩ (h x hx)

theorem Whole.keep {D : Disk} (h : Whole D) (l : List UW) (hl : ∀ x ∈ l, x.bytes.size = 16) : Whole (made D l) := by
  have K := keeps_made D l
  exact {
    kind := by rw [K.kind]; exact h.kind
    n0 := by rw [K.kind, K.n]; exact h.n0
    n1 := by rw [K.kind, K.n]; exact h.n1
    n2 := by rw [K.kind, K.n]; exact h.n2
    size := by rw [K.size]; exact h.size
    state := fun j hj => by rw [K.n] at hj; rw [(made_state l D j hj).1]; exact h.state j hj
    len := fun j hj => by rw [K.n] at hj; rw [(made_state l D j hj).2, K.sz]; exact h.len j hj
    s16 := fun j k hj hk => by
      rw [K.n] at hj; rw [K.sz] at hk
      rcases made_sec l D j k hj (by rw [h.len j hj]; exact hk) with q | ⟨x, hx, _, _, q⟩
      · rw [q]; exact h.s16 j k hj hk
      · rw [q]; exact hl x hx }

theorem sec_two {D : Disk} {u p a : Nat} {b c : ByteArray} {j k : Nat} (hj : j < D.n) (hk : k < (D.at j).secs.length) (hne : u ≠ p) :
    (made D [⟨(u : Nat), (a : Nat), b⟩, ⟨(p : Nat), (a : Nat), c⟩]).sec j k = if j = p ∧ k = a then c else if j = u ∧ k = a then b else D.sec j k := by
  have e : made D [⟨(u : Nat), (a : Nat), b⟩, ⟨(p : Nat), (a : Nat), c⟩] = put1 (put1 D ⟨(u : Nat), (a : Nat), b⟩) ⟨(p : Nat), (a : Nat), c⟩ := rfl
  rw [e, sec_put1 _ _ j k (by rw [put1_n]; exact hj) (by rw [len_put1 _ _ j hj]; exact hk), sec_put1 _ _ j k hj hk]
  simp only [Int.toNat_natCast, eq_comm]

theorem par_red {D : Disk} (h : Red D) (hk : D.kind = 2) {s : Nat} (hs : s < D.count) (b : ByteArray) {i : Nat} (hi : i < 16) :
    xr ((List.range D.n).map fun j => bat (if j = D.pP s then D.par s b else if j = D.pU s then b else D.sec j (D.pA s)) i) = 0 := by
  have hne := Disk.pU_ne hk s
  have hU := h.pU_lt s
  have hP := h.pP_lt s
  rw [xr_out List.nodup_range (List.mem_range.2 hU)]
  have hPm : D.pP s ∈ (List.range D.n).filter (fun j => !decide (j = D.pU s)) := by simp [hP, hne.symm]
  rw [xr_out (List.Pairwise.filter _ List.nodup_range) hPm]
  rw [if_neg hne, if_pos rfl, if_pos rfl, par_bat h.toWhole hk hs b hi]
  have e : (((List.range D.n).filter (fun j => !decide (j = D.pU s))).filter (fun j => !decide (j = D.pP s))).map (fun j => bat (if j = D.pP s then D.par s b else if j = D.pU s then b else D.sec j (D.pA s)) i) =
      ((rest D.n (D.pU s)).filter (fun j => !decide (j = D.pP s))).map (fun j => bat (D.sec j (D.pA s)) i) := by
    apply List.map_congr_left
    intro j hj
    simp only [List.mem_filter, Bool.not_eq_true', decide_eq_false_iff_not] at hj
    rw [if_neg hj.2, if_neg hj.1.2]
  rw [e, UInt8.xor_assoc, UInt8.xor_self, UInt8.xor_zero, UInt8.xor_self]

theorem wr2 {D : Disk} (h : Whole D) (hk : D.kind = 2) {s : Nat} (hs : s < D.count) (b : ByteArray) : D.wr s b = made D [⟨(D.pU s : Nat), (D.pA s : Nat), b⟩, ⟨(D.pP s : Nat), (D.pA s : Nat), D.par s b⟩] := by
  unfold Disk.wr; rw [h.writes2 hk hs]
theorem wr1 {D : Disk} (h : Whole D) (hk : D.kind = 1) {s : Nat} (b : ByteArray) : D.wr s b = made D [⟨(0 : Nat), s, b⟩, ⟨(1 : Nat), s, b⟩] := by
  unfold Disk.wr; rw [h.writes1 hk]; rfl
theorem wr0 {D : Disk} (h : Whole D) (hk : D.kind = 0) {s : Nat} (b : ByteArray) : D.wr s b = made D [⟨(0 : Nat), s, b⟩] := by
  unfold Disk.wr; rw [h.writes0 hk]; rfl
theorem keeps_wr (D : Disk) (s : Nat) (b : ByteArray) : Keeps D (D.wr s b) := by
  unfold Disk.wr; split
  · exact keeps_made D _
  · exact ⟨rfl, rfl, rfl⟩

/-- A redundant disk stays redundant. -/
theorem Red.wr {D : Disk} (h : Red D) {s : Nat} (hs : s < D.count) {b : ByteArray} (hb : b.size = 16) : Red (D.wr s b) := by
  have K := keeps_wr D s b
  rcases h.kind with hk | hk | hk
  · have hw := wr0 h.toWhole hk (s := s) b
    refine { (hw ▸ h.toWhole.keep _ (by intro x hx; simp at hx; subst hx; exact hb) : Whole (D.wr s b)) with mir := fun q => ?_, par := fun q => ?_ }
    · rw [K.kind] at q; omega
    · rw [K.kind] at q; omega
  · have hw := wr1 h.toWhole hk (s := s) b
    refine { (hw ▸ h.toWhole.keep _ (by intro x hx; simp at hx; rcases hx with rfl | rfl <;> exact hb) : Whole (D.wr s b)) with mir := fun q k hk2 => ?_, par := fun q => ?_ }
    · have hn := h.n1 hk
      rw [K.sz] at hk2
      rw [hw, sec_two (by omega) (by rw [h.len 0 (by omega)]; exact hk2) (by decide), sec_two (by omega) (by rw [h.len 1 (by omega)]; exact hk2) (by decide)]
      by_cases q2 : k = s
      · simp [q2]
      · simp [q2, h.mir hk k hk2]
    · rw [K.kind] at q; omega
  · have hw := wr2 h.toWhole hk hs b
    refine { (hw ▸ h.toWhole.keep _ (by intro x hx; simp at hx; rcases hx with rfl | rfl; exact hb; exact par_size _ hb) : Whole (D.wr s b)) with mir := fun q => ?_, par := fun q k hk2 i hi => ?_ }
    · rw [K.kind] at q; omega
    · rw [K.sz] at hk2
      rw [K.n]
      have e : (List.range D.n).map (fun j => bat ((D.wr s b).sec j k) i) = (List.range D.n).map fun j => bat (if j = D.pP s ∧ k = D.pA s then D.par s b else if j = D.pU s ∧ k = D.pA s then b else D.sec j k) i := by
        apply List.map_congr_left
        intro j hj
        have hj' := List.mem_range.1 hj
        rw [hw, sec_two hj' (by rw [h.len j hj']; exact hk2) (Disk.pU_ne hk s)]
      rw [e]
      by_cases q2 : k = D.pA s
      · subst q2
        simp only [and_true]
        exact par_red h hk hs b hi
      · simp only [q2, and_false, if_false]
        exact h.par hk k hk2 i hi


def upd (j : Nat) (v : DU) : List UW → DU
  | [] => v
  | x :: l => upd j (if x.unit.toNat = j then { v with secs := v.secs.set x.sector.toNat x.bytes } else v) l
theorem at_made (l : List UW) : ∀ (d : Disk) (j : Nat), j < d.n → (made d l).at j = upd j (d.at j) l := by
  induction l with
  | nil => intro d j _; rfl
  | cons x l ih =>
    intro d j hj
    have e : made d (x :: l) = made (put1 d x) l := rfl
    rw [e, ih (put1 d x) j (by rw [put1_n]; exact hj), at_put1 d x j hj]
    rfl
theorem upd_filter {u j : Nat} (hj : j ≠ u) : ∀ (l : List UW) (v : DU), upd j v (l.filter fun x => !decide (x.unit.toNat = u)) = upd j v l
  | [], v => rfl
  | x :: l, v => by
    by_cases h : x.unit.toNat = u
    · have : ¬ x.unit.toNat = j := by omega
      simp only [List.filter_cons, h, decide_true, Bool.not_true, Bool.false_eq_true, if_false, upd]
      rw [if_neg (by omega)]
      exact upd_filter hj l v
    · simp only [List.filter_cons, h, decide_false, Bool.not_false, if_true, upd]
      exact upd_filter hj l _

/-- The writes of a disk of which a unit is not read. -/
theorem Sim.writes {u : Nat} {D d : Disk} (h : Sim u D d) (hR : Red D) (hk0 : D.kind ≠ 0) {s : Nat} (hs : s < D.count) (b : ByteArray) {L : List UW} (hL : D.writes s b = some L) :
    d.writes s b = some (if (d.at u).state = 1 then L.filter (fun x => !decide (x.unit.toNat = u)) else L) := by
  have hst : ∀ j, j < D.n → j ≠ u → (d.at j).state = 0 := fun j hj hju => by rw [h.other j hj hju]; exact hR.state j hj
  rcases hR.kind with hk | hk | hk
  · exact absurd hk hk0
  · have hn := hR.n1 hk
    rw [hR.writes1 hk] at hL
    cases hL
    have hu := h.lt
    unfold Disk.writes
    rw [if_neg (by rw [h.kind]; omega)]
    unfold Disk.plainW
    rw [h.n, hn, show List.range 2 = [0, 1] by decide]
    have hu2 : u = 0 ∨ u = 1 := by omega
    rcases hu2 with rfl | rfl
    · have h1 := hst 1 (by omega) (by decide)
      rcases h.state with q | q <;> simp [List.filter_cons, h1, q, okW]
    · have h1 := hst 0 (by omega) (by decide)
      rcases h.state with q | q <;> simp [List.filter_cons, h1, q, okW]
  · rw [hR.writes2 hk hs] at hL
    cases hL
    have hne := Disk.pU_ne hk s
    have hU := hR.pU_lt s
    have hP := hR.pP_lt s
    have hsum : d.sum s b = some (D.par s b) := by
      rw [← hR.sum hk hs b]
      have hm : d.mates s = D.mates s := by simp only [Disk.mates, h.pA, h.n]
      unfold Disk.sum
      rw [hm]
      exact sumGo_congr fun i hi => h.read hR hk0 (mates_lt hR.toWhole hk hs hi).1
    unfold Disk.writes Disk.dataW
    rw [h.kind, if_pos hk, h.pP, h.pU, h.pA, hsum]
    by_cases q1 : D.pP s = u
    · have q2 : ¬ D.pU s = u := by omega
      rw [hst _ hU q2]
      rw [q1]
      rcases h.state with q | q <;> simp [q, q1, q2, okW, List.filter_cons]
    · rw [hst _ hP q1]
      by_cases q2 : D.pU s = u
      · rw [q2]
        rcases h.state with q | q <;> simp [q, q1, q2, okW, List.filter_cons]
      · rw [hst _ hU q2]
        rcases h.state with q | q <;> simp [q, q1, q2, okW, List.filter_cons]

theorem Whole.writes_some {D : Disk} (h : Whole D) {s : Nat} (hs : s < D.count) (b : ByteArray) : ∃ L, D.writes s b = some L := by
  rcases h.kind with hk | hk | hk
  · exact ⟨_, h.writes0 hk b⟩
  · exact ⟨_, h.writes1 hk b⟩
  · exact ⟨_, h.writes2 hk hs b⟩

theorem Sim.both {u : Nat} {D d : Disk} (h : Sim u D d) (L l : List UW) (hl : l = L ∨ l = L.filter (fun x => !decide (x.unit.toNat = u))) : Sim u (made D L) (made d l) := by
  have K := keeps_made D L
  have k := keeps_made d l
  have hu : u < d.n := by rw [h.n]; exact h.lt
  obtain ⟨s1, s2⟩ := made_state l d u hu
  exact {
    kind := by rw [k.kind, K.kind, h.kind]
    size := by rw [k.size, K.size, h.size]
    n := by rw [k.n, K.n, h.n]
    lt := by rw [K.n]; exact h.lt
    other := fun j hj hju => by
      rw [K.n] at hj
      rw [at_made l d j (by rw [h.n]; exact hj), at_made L D j hj, h.other j hj hju]
      rcases hl with rfl | rfl
      · rfl
      · exact upd_filter hju L _
    state := by rw [s1]; exact h.state
    gone := fun q => by
      rw [s1] at q
      apply List.eq_nil_of_length_eq_zero
      rw [s2, h.gone q]; rfl
    fresh := fun q => by
      rw [s1] at q
      rw [s2, K.sz]; exact h.fresh q }

/-- One write on both. -/
theorem Sim.wr {u : Nat} {D d : Disk} (h : Sim u D d) (hR : Red D) (hk0 : D.kind ≠ 0) {s : Nat} (hs : s < D.count) (b : ByteArray) : ∃ l, d.writes s b = some l ∧ Sim u (D.wr s b) (made d l) := by
  obtain ⟨L, hL⟩ := hR.writes_some hs b
  refine ⟨_, h.writes hR hk0 hs b hL, ?_⟩
  have : D.wr s b = made D L := by unfold Disk.wr; rw [hL]
  rw [this]
  refine h.both L _ ?_
  split
  · exact .inr rfl
  · exact .inl rfl

/-! ### Runs -/
def runW : Disk → List SW → Option (Disk × List UW)
  | d, [] => some (d, [])
  | d, w :: l => match d.writes w.sector.toNat w.bytes with
    | some x => match runW (made d x) l with
      | some (e, y) => some (e, x ++ y)
      | none => none
    | none => none
def okS (d : Disk) (l : List SW) : Prop := ∀ w ∈ l, (0 ≤ w.sector ∧ w.sector.toNat < d.count) ∧ w.bytes.size = 16

theorem runW_made : ∀ (l : List SW) {d e : Disk} {y : List UW}, runW d l = some (e, y) → e = made d y
  | [], d, e, y, h => by simp only [runW, Option.some.injEq, Prod.mk.injEq] at h; obtain ⟨rfl, rfl⟩ := h; rfl
  | w :: l, d, e, y, h => by
    simp only [runW] at h
    cases hw : d.writes w.sector.toNat w.bytes with
    | none => rw [hw] at h; cases h
    | some x =>
      rw [hw] at h
      simp only at h
      cases hr : runW (made d x) l with
      | none => rw [hr] at h; cases h
      | some q =>
        obtain ⟨e', y'⟩ := q
        rw [hr] at h
        simp only [Option.some.injEq, Prod.mk.injEq] at h
        obtain ⟨rfl, rfl⟩ := h
        rw [made_append, runW_made l hr]

theorem Red.run : ∀ (l : List SW) {D : Disk}, Red D → okS D l → ∃ E y, runW D l = some (E, y) ∧ Red E ∧ Keeps D E
  | [], D, h, _ => ⟨D, [], rfl, h, ⟨rfl, rfl, rfl⟩⟩
  | w :: l, D, h, ho => by
    obtain ⟨⟨h0, h1⟩, h2⟩ := ho w (List.mem_cons_self ..)
    obtain ⟨L, hL⟩ := h.writes_some h1 w.bytes
    have hD : D.wr w.sector.toNat w.bytes = made D L := by unfold Disk.wr; rw [hL]
    have hR := h.wr h1 h2
    rw [hD] at hR
    have K := keeps_made D L
    obtain ⟨E, y, q1, q2, q3⟩ := Red.run l hR fun v hv => by rw [K.count]; exact ho v (List.mem_cons_of_mem _ hv)
    refine ⟨E, L ++ y, ?_, q2, ⟨q3.kind.trans K.kind, q3.size.trans K.size, q3.n.trans K.n⟩⟩
    simp only [runW, hL, q1]

theorem Sim.run {u : Nat} : ∀ (l : List SW) {D d E : Disk} {Y : List UW}, Sim u D d → Red D → D.kind ≠ 0 → okS D l → runW D l = some (E, Y) → ∃ e y, runW d l = some (e, y) ∧ Sim u E e
  | [], D, d, E, Y, h, _, _, _, hr => by
    simp only [runW, Option.some.injEq, Prod.mk.injEq] at hr
    obtain ⟨rfl, rfl⟩ := hr
    exact ⟨d, [], rfl, h⟩
  | w :: l, D, d, E, Y, h, hR, hk, ho, hr => by
    obtain ⟨⟨h0, h1⟩, h2⟩ := ho w (List.mem_cons_self ..)
    obtain ⟨L, hL⟩ := hR.writes_some h1 w.bytes
    have hD : D.wr w.sector.toNat w.bytes = made D L := by unfold Disk.wr; rw [hL]
    have hR2 := hR.wr h1 h2
    obtain ⟨x, hx, hS⟩ := h.wr hR hk h1 w.bytes
    rw [hD] at hR2 hS
    have K := keeps_made D L
    simp only [runW, hL] at hr
    cases hr2 : runW (made D L) l with
    | none => rw [hr2] at hr; cases hr
    | some q =>
      obtain ⟨E', Y'⟩ := q
      rw [hr2] at hr
      simp only [Option.some.injEq, Prod.mk.injEq] at hr
      obtain ⟨rfl, rfl⟩ := hr
      obtain ⟨e, y, q1, q2⟩ := Sim.run l hS hR2 (by rw [K.kind]; exact hk) (fun v hv => by rw [K.count]; exact ho v (List.mem_cons_of_mem _ hv)) hr2
      exact ⟨e, x ++ y, by simp only [runW, hx, q1], q2⟩


/-! ### A unit rebuilt -/
/-- The unit u made anew out of the others. -/
def Disk.rebuilt (d : Disk) (u : Nat) : Disk := { d with units := d.units.set u ⟨0, (List.range d.sz).map fun k => (d.others u k).getD default⟩ }
theorem Disk.ext_at {d e : Disk} (hk : d.kind = e.kind) (hs : d.size = e.size) (hn : d.n = e.n) (h : ∀ j, j < d.n → d.at j = e.at j) : d = e := by
  obtain ⟨dk, ds, du⟩ := d
  obtain ⟨ek, es, eu⟩ := e
  simp only at hk hs
  subst hk hs
  congr 1
  have hl : du.length = eu.length := hn
  apply List.ext_getElem hl
  intro j h1 h2
  have := h j h1
  simp only [Disk.at, List.getD_eq_getElem?_getD, List.getElem?_eq_getElem h1, List.getElem?_eq_getElem h2, Option.getD_some] at this
  exact this
theorem Sim.rebuilt {u : Nat} {D d : Disk} (h : Sim u D d) (hR : Red D) (hk : D.kind ≠ 0) : d.rebuilt u = D := by
  have hu : u < d.n := by rw [h.n]; exact h.lt
  refine Disk.ext_at h.kind h.size (by show (d.units.set u _).length = _; rw [List.length_set]; exact h.n) fun j hj => ?_
  have hj' : j < d.n := by
    have e : (d.rebuilt u).n = d.n := by show (d.units.set u _).length = _; rw [List.length_set]; rfl
    rwa [e] at hj
  have e : (d.rebuilt u).at j = if u = j then ⟨0, (List.range d.sz).map fun k => (d.others u k).getD default⟩ else d.at j := by
    unfold Disk.n at hj'
    simp only [Disk.rebuilt, Disk.at, List.getD_eq_getElem?_getD, List.getElem?_set]
    by_cases q : u = j
    · subst q; simp [hj']
    · simp [q]
  rw [e]
  have hjD : j < D.n := by rw [← h.n]; exact hj'
  by_cases q : u = j
  · subst q
    rw [if_pos rfl]
    have hs := hR.state u hjD
    have hl := hR.len u hjD
    cases hD : D.at u with
    | mk st secs =>
      rw [hD] at hs hl
      simp only at hs hl
      subst hs
      congr 1
      apply List.ext_getElem (by simp [hl, h.sz])
      intro k h1 h2
      simp only [List.getElem_map, List.getElem_range]
      have hk2 : k < D.sz := by rw [← hl]; exact h2
      rw [h.others hR hk hk2, Option.getD_some]
      simp only [Disk.sec, hD, List.getD_eq_getElem?_getD, List.getElem?_eq_getElem h2, Option.getD_some]
  · rw [if_neg q]
    exact h.other j hjD (Ne.symm q)

/-! ### Old or new -/
/-- The disk made redundant again. -/
def Disk.synced (d : Disk) : Disk := if d.kind = 1 then { d with units := [d.at 0, { d.at 1 with secs := (d.at 0).secs }] }
  else if d.kind = 2 then { d with units := (List.range d.n).map fun j => { d.at j with secs := (List.range d.sz).map fun k => if k % d.n = j then xorL ((rest d.n j).map fun i => d.sec i k) else d.sec j k } }
  else d

theorem synced_keeps {d : Disk} (h : Whole d) : Keeps d d.synced := by
  unfold Disk.synced
  split
  · rename_i hk
    have := h.n1 hk
    refine ⟨rfl, rfl, ?_⟩
    show 2 = _
    exact this.symm
  · split
    · refine ⟨rfl, rfl, ?_⟩
      show ((List.range d.n).map _).length = _
      simp
    · exact ⟨rfl, rfl, rfl⟩
theorem synced_at2 {d : Disk} (hk : d.kind = 2) {j : Nat} (hj : j < d.n) : d.synced.at j = { d.at j with secs := (List.range d.sz).map fun k => if k % d.n = j then xorL ((rest d.n j).map fun i => d.sec i k) else d.sec j k } := by
  unfold Disk.synced
  rw [if_neg (by omega), if_pos hk]
  simp [Disk.at, List.getD_eq_getElem?_getD, hj]
theorem synced_sec2 {d : Disk} (hk : d.kind = 2) {j k : Nat} (hj : j < d.n) (hk2 : k < d.sz) : d.synced.sec j k = if k % d.n = j then xorL ((rest d.n j).map fun i => d.sec i k) else d.sec j k := by
  simp only [Disk.sec, synced_at2 hk hj]
  simp [List.getD_eq_getElem?_getD, hk2, Disk.sec]
theorem synced_at1 {d : Disk} (hk : d.kind = 1) : d.synced.at 0 = d.at 0 ∧ d.synced.at 1 = { d.at 1 with secs := (d.at 0).secs } := by
  unfold Disk.synced
  rw [if_pos hk]
  exact ⟨rfl, rfl⟩

theorem synced_red {d : Disk} (h : Whole d) : Red d.synced := by
  have K := synced_keeps h
  rcases h.kind with hk | hk | hk
  · have e : d.synced = d := by unfold Disk.synced; rw [if_neg (by omega), if_neg (by omega)]
    rw [e]
    exact { h with mir := fun q => by omega, par := fun q => by omega }
  · obtain ⟨h0, h1⟩ := synced_at1 hk
    have hn := h.n1 hk
    have hsec : ∀ j k, j < d.n → d.synced.sec j k = d.sec 0 k := fun j k hj => by
      have : j = 0 ∨ j = 1 := by omega
      rcases this with rfl | rfl
      · simp only [Disk.sec, h0]
      · simp only [Disk.sec, h1]
    exact {
      kind := by rw [K.kind]; exact h.kind
      n0 := by rw [K.kind, K.n]; exact h.n0
      n1 := by rw [K.kind, K.n]; exact h.n1
      n2 := by rw [K.kind, K.n]; exact h.n2
      size := by rw [K.size]; exact h.size
      state := fun j hj => by
        rw [K.n] at hj
        have : j = 0 ∨ j = 1 := by omega
        rcases this with rfl | rfl
        · rw [h0]; exact h.state 0 hj
        · rw [h1]; exact h.state 1 hj
      len := fun j hj => by
        rw [K.n] at hj
        rw [K.sz]
        have : j = 0 ∨ j = 1 := by omega
        rcases this with rfl | rfl
        · rw [h0]; exact h.len 0 hj
        · rw [h1]; exact h.len 0 (by omega)
      s16 := fun j k hj hk2 => by
        rw [K.n] at hj; rw [K.sz] at hk2
        rw [hsec j k hj]; exact h.s16 0 k (by omega) hk2
      mir := fun _ k hk2 => by rw [hsec 0 k (by omega), hsec 1 k (by omega)]
      par := fun q => by rw [K.kind] at q; omega }
  · have hn := h.n2 hk
    exact {
      kind := by rw [K.kind]; exact h.kind
      n0 := by rw [K.kind, K.n]; exact h.n0
      n1 := by rw [K.kind, K.n]; exact h.n1
      n2 := by rw [K.kind, K.n]; exact h.n2
      size := by rw [K.size]; exact h.size
      state := fun j hj => by rw [K.n] at hj; rw [synced_at2 hk hj]; exact h.state j hj
      len := fun j hj => by rw [K.n] at hj; rw [synced_at2 hk hj, K.sz]; simp
      s16 := fun j k hj hk2 => by
        rw [K.n] at hj; rw [K.sz] at hk2
        rw [synced_sec2 hk hj hk2]
        split
        · exact size_xorL _
        · exact h.s16 j k hj hk2
      mir := fun q => by rw [K.kind] at q; omega
      par := fun _ k hk2 i hi => by
        rw [K.sz] at hk2
        rw [K.n]
        have hp : k % d.n < d.n := Nat.mod_lt _ (by omega)
        rw [xr_out List.nodup_range (List.mem_range.2 hp), synced_sec2 hk hp hk2, if_pos rfl, bat_xorL _ hi, List.map_map]
        have e : ((List.range d.n).filter (fun j => !decide (j = k % d.n))).map (fun j => bat (d.synced.sec j k) i) = (rest d.n (k % d.n)).map ((bat · i) ∘ fun j => d.sec j k) := by
          apply List.map_congr_left
          intro j hj
          obtain ⟨q1, q2⟩ := mem_rest.1 hj
          rw [synced_sec2 hk q1 hk2, if_neg (fun q => q2 q.symm)]
          rfl
        rw [e, UInt8.xor_self] }

/-- What is read behind that. -/
theorem synced_read {d : Disk} (h : Whole d) {s : Nat} (hs : s < d.count) : d.synced.read s = d.read s := by
  have K := synced_keeps h
  rw [(synced_red h).read, h.read, K.pU, K.pA]
  rcases h.kind with hk | hk | hk
  · have e : d.synced = d := by unfold Disk.synced; rw [if_neg (by omega), if_neg (by omega)]
    rw [e]
  · have hU : d.pU s = 0 := by unfold Disk.pU; rw [if_neg (by omega)]
    rw [hU]
    simp only [Disk.sec, (synced_at1 hk).1]
  · rw [synced_sec2 hk (h.pU_lt s) (h.pA_lt hs), if_neg (fun q => Disk.pU_ne hk s q.symm)]

theorem place_inj {d : Disk} (h : Whole d) {s t : Nat} (h1 : d.pU s = d.pU t) (h2 : d.pA s = d.pA t) : s = t := by
  rcases h.kind with hk | hk | hk
  · unfold Disk.pA at h2; rw [if_neg (by omega), if_neg (by omega)] at h2; exact h2
  · unfold Disk.pA at h2; rw [if_neg (by omega), if_neg (by omega)] at h2; exact h2
  · have hn := h.n2 hk
    have hp : d.pP s = d.pP t := by unfold Disk.pP; rw [h2]
    unfold Disk.pU at h1
    rw [if_pos hk, if_pos hk, hp] at h1
    have hm : s % (d.n - 1) = t % (d.n - 1) := by
      unfold plU at h1
      split at h1 <;> split at h1 <;> omega
    rw [Disk.pA2 hk, Disk.pA2 hk] at h2
    rw [← Nat.div_add_mod s (d.n - 1), ← Nat.div_add_mod t (d.n - 1), hm, h2]

/-- A write to a unit that a write of a sector makes. -/
def Of (d : Disk) (w : SW) (x : UW) : Prop := x.sector.toNat = d.pA w.sector.toNat ∧ ((d.kind = 2 ∧ x.unit.toNat = d.pP w.sector.toNat) ∨ (x.bytes = w.bytes ∧ (d.kind = 2 → x.unit.toNat = d.pU w.sector.toNat)))
theorem Whole.of {D : Disk} (h : Whole D) {w : SW} (hs : w.sector.toNat < D.count) {L : List UW} (hL : D.writes w.sector.toNat w.bytes = some L) : ∀ x ∈ L, Of D w x := by
  intro x hx
  rcases h.kind with hk | hk | hk
  · rw [h.writes0 hk] at hL
    cases hL
    simp only [List.mem_cons, List.not_mem_nil, or_false] at hx
    subst hx
    refine ⟨?_, .inr ⟨rfl, fun q => by omega⟩⟩
    unfold Disk.pA; rw [if_neg (by omega)]; exact Int.toNat_natCast _
  · rw [h.writes1 hk] at hL
    cases hL
    simp only [List.mem_cons, List.not_mem_nil, or_false] at hx
    rcases hx with rfl | rfl
    · refine ⟨?_, .inr ⟨rfl, fun q => by omega⟩⟩
      unfold Disk.pA; rw [if_neg (by omega)]; exact Int.toNat_natCast _
    · refine ⟨?_, .inr ⟨rfl, fun q => by omega⟩⟩
      unfold Disk.pA; rw [if_neg (by omega)]; exact Int.toNat_natCast _
  · rw [h.writes2 hk hs] at hL
    cases hL
    simp only [List.mem_cons, List.not_mem_nil, or_false] at hx
    rcases hx with rfl | rfl
    · exact ⟨Int.toNat_natCast _, .inr ⟨rfl, fun _ => Int.toNat_natCast _⟩⟩
    · exact ⟨Int.toNat_natCast _, .inl ⟨hk, Int.toNat_natCast _⟩⟩

theorem Red.run_of : ∀ (l : List SW) {D E : Disk} {Y : List UW}, Red D → okS D l → runW D l = some (E, Y) → ∀ x ∈ Y, x.bytes.size = 16 ∧ ∃ w ∈ l, Of D w x
  | [], D, E, Y, _, _, hr => by
    simp only [runW, Option.some.injEq, Prod.mk.injEq] at hr
    obtain ⟨rfl, rfl⟩ := hr
    intro x hx; cases hx
  | w :: l, D, E, Y, hR, ho, hr => by
    obtain ⟨⟨h0, h1⟩, h2⟩ := ho w (List.mem_cons_self ..)
    obtain ⟨L, hL⟩ := hR.writes_some h1 w.bytes
    have hD : D.wr w.sector.toNat w.bytes = made D L := by unfold Disk.wr; rw [hL]
    have hR2 := hR.wr h1 h2
    rw [hD] at hR2
    have K := keeps_made D L
    simp only [runW, hL] at hr
    cases hr2 : runW (made D L) l with
    | none => rw [hr2] at hr; cases hr
    | some q =>
      obtain ⟨E', Y'⟩ := q
      rw [hr2] at hr
      simp only [Option.some.injEq, Prod.mk.injEq] at hr
      obtain ⟨rfl, rfl⟩ := hr
      intro x hx
      rcases List.mem_append.1 hx with hx | hx
      · refine ⟨?_, w, List.mem_cons_self .., hR.of h1 hL x hx⟩
        rcases hR.kind with hk | hk | hk
        · rw [hR.writes0 hk] at hL; cases hL
          simp only [List.mem_cons, List.not_mem_nil, or_false] at hx; subst hx; exact h2
        · rw [hR.writes1 hk] at hL; cases hL
          simp only [List.mem_cons, List.not_mem_nil, or_false] at hx; rcases hx with rfl | rfl <;> exact h2
        · rw [hR.writes2 hk h1] at hL; cases hL
          simp only [List.mem_cons, List.not_mem_nil, or_false] at hx
          rcases hx with rfl | rfl
          · exact h2
          · exact par_size _ h2
      · obtain ⟨q1, v, q2, q3⟩ := Red.run_of l hR2 (fun v hv => by rw [K.count]; exact ho v (List.mem_cons_of_mem _ hv)) hr2 x hx
        refine ⟨q1, v, List.mem_cons_of_mem _ q2, ?_⟩
        unfold Of at q3 ⊢
        rw [K.pA, K.pP, K.pU, K.kind] at q3
        exact q3

/-- OLD OR NEW. -/
theorem old_or_new {D : Disk} (hR : Red D) {l : List SW} (ho : okS D l) {E : Disk} {Y : List UW} (hr : runW D l = some (E, Y)) {some' : List UW} (hsub : ∀ x ∈ some', x ∈ Y) {s : Nat} (hs : s < D.count) :
    Whole (made D some') ∧ ((made D some').synced.read s = D.read s ∨ ∃ w ∈ l, w.sector = (s : Int) ∧ (made D some').synced.read s = some w.bytes) := by
  have hall := hR.run_of l ho hr
  have hW : Whole (made D some') := hR.keep _ fun x hx => (hall x (hsub x hx)).1
  have K := keeps_made D some'
  refine ⟨hW, ?_⟩
  have hA := hR.pA_lt hs
  have hU := hR.pU_lt s
  rw [synced_read hW (by rw [K.count]; exact hs), hW.read, hR.read, K.pU, K.pA]
  rcases made_sec some' D (D.pU s) (D.pA s) hU (by rw [hR.len _ hU]; exact hA) with q | ⟨x, hx, h1, h2, h3⟩
  · exact .inl (by rw [q])
  · obtain ⟨_, w, hw, hof1, hof2⟩ := hall x (hsub x hx)
    obtain ⟨⟨w0, w1⟩, _⟩ := ho w hw
    rcases hof2 with ⟨hk, hp⟩ | ⟨hb, hu⟩
    · exfalso
      have : D.pP w.sector.toNat = D.pP s := by unfold Disk.pP; rw [← hof1, h2]
      exact Disk.pU_ne hk s (by rw [← this, ← hp, h1])
    · refine .inr ⟨w, hw, ?_, by rw [h3, hb]⟩
      have hUU : D.pU w.sector.toNat = D.pU s := by
        by_cases hk : D.kind = 2
        · rw [← hu hk, h1]
        · unfold Disk.pU; rw [if_neg hk, if_neg hk]
      have := place_inj hR.toWhole hUU (by rw [← hof1, h2])
      omega

end Go.Proofs.Ytdfdagfgkijpcaa.C06
