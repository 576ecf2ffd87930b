/- The values of the abstract machine, and what it means that one of them stands for a value of the model. -/
import Derived.Below
import Derived.Orders
import Derived.Tactics
import Derived.Laws.AppendOwn
import Derived.Laws.Rows
import Derived.Maps.AppendAt
import Derived.Laws.RangeString
set_option linter.unusedSimpArgs false
set_option linter.unusedVariables false
namespace Go.Proofs.YtbhgehhmjpipiaaGreatDoor.Ab
open Go Go.RowKit
inductive AV where
 | any
 | int (k : IntKind) (n : Int)
 | bool (b : Bool)
 | ub
 | str (s : ByteArray)
 | agg (cs : List AV)
 | tup (vs : List AV)
 | nils
 | emp
 | sl (xs : List (List AV))
 | ptr (cs : List AV)
 | fn (f : FuncId) (caps : List AV)
 | ref (t ver : Nat)
 | loc (t ver i off : Nat)
 | win (t ver lo n : Nat)
 | obj (ver : Nat) (ty : TypeId) (esz : Nat) (fz pu : Bool) (xs : List (List AV))
 | dead (ver : Nat)
 | iter (ver : Nat) (s : ByteArray) (pos : Nat)
 | icap (t ver c : Nat)
 deriving Inhabited
def AV.cellP : AV → Bool
 | .int .. | .bool _ | .str _ | .nils | .emp | .sl _ | .ptr _ | .fn .. => true
 | _ => false
def AV.cellQ : AV → Bool
 | .int .. | .bool _ | .str _ | .nils | .emp | .sl _ | .ptr _ | .fn .. | .ref .. | .loc .. | .win .. => true
 | _ => false
def AV.pure : AV → Bool
 | .agg cs => cs.all AV.cellP
 | .tup _ => false
 | a => a.cellP
theorem AV.cellQ_of_P {a : AV} (h : a.cellP = true) : a.cellQ = true := by cases a <;> simp_all [AV.cellP, AV.cellQ]
structure Ob where
 ver : Nat
 base : Option Addr
 n : Nat
 cap : Nat
 esz : Nat
structure Gh where
 pr : Nat → Nat → Prop
 ob : Nat → Option Ob
 cnt : Nat → Nat
inductive VRel (G : Gh) (w : World) : AV → Value → Prop
 | any (v : Value) : VRel G w .any v
 | int (k : IntKind) (n : Int) : VRel G w (.int k n) (.int k n)
 | bool (b : Bool) : VRel G w (.bool b) (.bool b)
 | ub (b : Bool) : VRel G w .ub (.bool b)
 | str (s : ByteArray) : VRel G w (.str s) (.string s)
 | agg (cs : List AV) (vs : Array Value) (hn : vs.size = cs.length)
    (h : ∀ (i : Nat) (c : AV) (v : Value), cs[i]? = some c → vs[i]? = some v → VRel G w c v) : VRel G w (.agg cs) (.agg vs)
 | tup (cs : List AV) (vs : Array Value) (hn : vs.size = cs.length)
    (h : ∀ (i : Nat) (c : AV) (v : Value), cs[i]? = some c → vs[i]? = some v → VRel G w c v) : VRel G w (.tup cs) (.tuple vs)
 | nils : VRel G w .nils (.slice none 0 0)
 | emp (A : Option Addr) : VRel G w .emp (.slice A 0 0)
 | sl0 (A : Option Addr) (c : Nat) : VRel G w (.sl []) (.slice A 0 c)
 | sl (xs : List (List AV)) (b o c esz : Nat) (V : Nat → Nat → Value) (hc : xs.length ≤ c)
    (hs : ∀ x ∈ xs, x.length = esz)
    (hp : ∀ x ∈ xs, ∀ a ∈ x, AV.cellP a = true)
    (hcell : ∀ (i j : Nat) (x : List AV) (a : AV), xs[i]? = some x → x[j]? = some a → w.cell? ⟨b, o + i * esz + j, none⟩ = some (V i j))
    (hpr : ∀ (i j : Nat) (x : List AV) (a : AV), xs[i]? = some x → x[j]? = some a → G.pr b (o + i * esz + j))
    (h : ∀ (i j : Nat) (x : List AV) (a : AV), xs[i]? = some x → x[j]? = some a → VRel G w a (V i j)) :
    VRel G w (.sl xs) (.slice (some ⟨b, o, none⟩) xs.length c)
 | ptr (cs : List AV) (b o : Nat) (V : Nat → Value)
    (hp : ∀ a ∈ cs, AV.cellP a = true)
    (hcell : ∀ (j : Nat) (a : AV), cs[j]? = some a → w.cell? ⟨b, o + j, none⟩ = some (V j))
    (hpr : ∀ (j : Nat) (a : AV), cs[j]? = some a → G.pr b (o + j))
    (h : ∀ (j : Nat) (a : AV), cs[j]? = some a → VRel G w a (V j)) :
    VRel G w (.ptr cs) (.pointer (some ⟨b, o, none⟩))
 | fn (f : FuncId) (cs : List AV) (vs : Array Value) (hn : vs.size = cs.length) (hp : ∀ a ∈ cs, AV.cellP a = true)
    (h : ∀ (i : Nat) (c : AV) (v : Value), cs[i]? = some c → vs[i]? = some v → VRel G w c v) :
    VRel G w (.fn f cs) (.func (.func f) #[] vs)
 | ref (t ver : Nat) (v : Value) (hv : ver ≤ G.cnt t) (h1 : v.oneCell' = true)
    (h : ∀ g, G.ob t = some g → g.ver = ver → v = .slice g.base g.n g.cap) : VRel G w (.ref t ver) v
 | loc (t ver i off : Nat) (v : Value) (hv : ver ≤ G.cnt t) (h1 : v.oneCell' = true)
    (h : ∀ g, G.ob t = some g → g.ver = ver → ∃ b, g.base = some ⟨b, 0, none⟩ ∧ v = .pointer (some ⟨b, i * g.esz + off, none⟩)) : VRel G w (.loc t ver i off) v
 | win (t ver lo n : Nat) (v : Value) (hv : ver ≤ G.cnt t) (h1 : v.oneCell' = true)
    (h : ∀ g, G.ob t = some g → g.ver = ver → ∃ A, v = .slice A n (g.cap - lo) ∧ lo + n ≤ g.cap ∧ (lo < g.cap → ∃ b, g.base = some ⟨b, 0, none⟩ ∧ A = some ⟨b, lo * g.esz, none⟩)) : VRel G w (.win t ver lo n) v
 | icap (t ver c : Nat) (hv : ver ≤ G.cnt t) (h : ∀ g, G.ob t = some g → g.ver = ver → g.cap = c) : VRel G w (.icap t ver c) (.int .i64 c)
theorem VRel.oneCell {G : Gh} {w : World} {a : AV} {v : Value} (h : VRel G w a v) (hq : a.cellQ = true) : v.oneCell' = true := by
 cases h <;> first | rfl | assumption | simp [AV.cellQ] at hq
structure GLe (G : Gh) (w : World) (G' : Gh) (w' : World) : Prop where
 pr : ∀ b o, G.pr b o → G'.pr b o
 cnt : ∀ t, G.cnt t ≤ G'.cnt t
 ob : ∀ t g, G'.ob t = some g → G.cnt t < g.ver ∨ G.ob t = some g
 cell : ∀ b o v, G.pr b o → w.cell? ⟨b, o, none⟩ = some v → w'.cell? ⟨b, o, none⟩ = some v
theorem GLe.refl (G : Gh) (w : World) : GLe G w G w := ⟨fun _ _ h => h, fun _ => Nat.le_refl _, fun _ _ h => .inr h, fun _ _ _ _ h => h⟩
theorem GLe.trans {G G' G'' : Gh} {w w' w'' : World} (h : GLe G w G' w') (k : GLe G' w' G'' w'') : GLe G w G'' w'' where
 pr b o hp := k.pr b o (h.pr b o hp)
 cnt t := Nat.le_trans (h.cnt t) (k.cnt t)
 ob t g hg := by
  rcases k.ob t g hg with h1 | h1
  · exact .inl (Nat.lt_of_le_of_lt (h.cnt t) h1)
  · exact h.ob t g h1
 cell b o v hp hc := k.cell b o v (h.pr b o hp) (h.cell b o v hp hc)
theorem VRel.mono {G G' : Gh} {w w' : World} (hle : GLe G w G' w') {a : AV} {v : Value} (h : VRel G w a v) : VRel G' w' a v := by
 induction h with
 | any v => exact .any v
 | int k n => exact .int k n
 | bool b => exact .bool b
 | ub b => exact .ub b
 | str s => exact .str s
 | agg cs vs hn h ih => exact .agg cs vs hn ih
 | tup cs vs hn h ih => exact .tup cs vs hn ih
 | nils => exact .nils
 | emp A => exact .emp A
 | sl0 A c => exact .sl0 A c
 | sl xs b o c esz V hc hs hp hcell hpr h ih =>
   exact .sl xs b o c esz V hc hs hp (fun i j x a h1 h2 => hle.cell _ _ _ (hpr i j x a h1 h2) (hcell i j x a h1 h2)) (fun i j x a h1 h2 => hle.pr _ _ (hpr i j x a h1 h2)) ih
 | ptr cs b o V hp hcell hpr h ih =>
   exact .ptr cs b o V hp (fun j a h1 => hle.cell _ _ _ (hpr j a h1) (hcell j a h1)) (fun j a h1 => hle.pr _ _ (hpr j a h1)) ih
 | fn f cs vs hn hp h ih => exact .fn f cs vs hn hp ih
 | ref t ver v hv h1 h =>
   refine .ref t ver v (Nat.le_trans hv (hle.cnt t)) h1 (fun g hg he => ?_)
   rcases hle.ob t g hg with h2 | h2
   · omega
   · exact h g h2 he
 | loc t ver i off v hv h1 h =>
   refine .loc t ver i off v (Nat.le_trans hv (hle.cnt t)) h1 (fun g hg he => ?_)
   rcases hle.ob t g hg with h2 | h2
   · omega
   · exact h g h2 he
 | win t ver lo n v hv h1 h =>
   refine .win t ver lo n v (Nat.le_trans hv (hle.cnt t)) h1 (fun g hg he => ?_)
   rcases hle.ob t g hg with h2 | h2
   · omega
   · exact h g h2 he
 | icap t ver c hv h =>
   refine .icap t ver c (Nat.le_trans hv (hle.cnt t)) (fun g hg he => ?_)
   rcases hle.ob t g hg with h2 | h2
   · omega
   · exact h g h2 he
theorem VRel.pure_congr {G G' : Gh} {w w' : World} (hpr : ∀ b o, G.pr b o → G'.pr b o) (hcell : ∀ b o v, G.pr b o → w.cell? ⟨b, o, none⟩ = some v → w'.cell? ⟨b, o, none⟩ = some v)
 {a : AV} {v : Value} (h : VRel G w a v) (hq : a.cellP = true) : VRel G' w' a v := by
 induction h with
 | any v => exact .any v
 | int k n => exact .int k n
 | bool b => exact .bool b
 | ub b => exact .ub b
 | str s => exact .str s
 | agg cs vs hn h ih => simp [AV.cellP] at hq
 | tup cs vs hn h ih => simp [AV.cellP] at hq
 | nils => exact .nils
 | emp A => exact .emp A
 | sl0 A c => exact .sl0 A c
 | sl xs b o c esz V hc hs hp hcell' hpr' h ih =>
   exact .sl xs b o c esz V hc hs hp (fun i j x a h1 h2 => hcell _ _ _ (hpr' i j x a h1 h2) (hcell' i j x a h1 h2)) (fun i j x a h1 h2 => hpr _ _ (hpr' i j x a h1 h2))
    (fun i j x a h1 h2 => ih i j x a h1 h2 (hp x (List.mem_of_getElem? h1) a (List.mem_of_getElem? h2)))
 | ptr cs b o V hp hcell' hpr' h ih =>
   exact .ptr cs b o V hp (fun j a h1 => hcell _ _ _ (hpr' j a h1) (hcell' j a h1)) (fun j a h1 => hpr _ _ (hpr' j a h1)) (fun j a h1 => ih j a h1 (hp a (List.mem_of_getElem? h1)))
 | fn f cs vs hn hp h ih => exact .fn f cs vs hn hp (fun i c v h1 h2 => ih i c v h1 h2 (hp c (List.mem_of_getElem? h1)))
 | ref t ver v hv h1 h => simp [AV.cellP] at hq
 | loc t ver i off v hv h1 h => simp [AV.cellP] at hq
 | win t ver lo n v hv h1 h => simp [AV.cellP] at hq
 | icap t ver c hv h => simp [AV.cellP] at hq
theorem VRel.pure_congr' {G G' : Gh} {w w' : World} (hpr : ∀ b o, G.pr b o → G'.pr b o) (hcell : ∀ b o v, G.pr b o → w.cell? ⟨b, o, none⟩ = some v → w'.cell? ⟨b, o, none⟩ = some v)
 {a : AV} {v : Value} (h : VRel G w a v) (hp : a.pure = true) : VRel G' w' a v := by
 cases a with
 | agg cs =>
   cases h with
   | agg _ vs hn h =>
     simp only [AV.pure, List.all_eq_true] at hp
     exact .agg cs vs hn fun i c v h1 h2 => (h i c v h1 h2).pure_congr hpr hcell (hp c (List.mem_of_getElem? h1))
 | tup _ => simp [AV.pure] at hp
 | _ => exact h.pure_congr hpr hcell (by simpa [AV.pure] using hp)
def absV : Value → AV
 | .int k n => .int k n
 | .bool b => .bool b
 | .string s => .str s
 | .slice none 0 0 => .nils
 | _ => .any
theorem absV_rel (G : Gh) (w : World) (v : Value) : VRel G w (absV v) v := by
 unfold absV; split
 · exact .int _ _
 · exact .bool _
 · exact .str _
 · exact .nils
 · exact .any _
end Go.Proofs.YtbhgehhmjpipiaaGreatDoor.Ab
