/- What the abstract machine does at an operation. -/
import Derived.Test.YtbhgehhmjpipiaaGreatDoorAb3
set_option linter.unusedSectionVars false
set_option linter.unusedSimpArgs false
set_option linter.unusedVariables false
namespace Go.Proofs.YtbhgehhmjpipiaaGreatDoor.Ab
open Go Go.RowKit
variable [Inhabited DW]
def sizeT (P : Program) (t : TypeId) : Option Nat := (P.info? t).map (·.size)
def bytesT (P : Program) (t : TypeId) : Option Nat := (P.info? t).map (·.bytes)
def aggT (P : Program) (t : TypeId) : Option Bool := (P.underlying t).map fun
 | .struct _ | .array _ _ => true
 | _ => false
def fieldT (P : Program) (t : TypeId) (i : Nat) : Option (Nat × TypeId) := match P.underlying t with
 | some (.struct fs) => (fs[i]?).map fun f => (f.offset, f.type)
 | _ => none
def elemT (P : Program) (t : TypeId) : Option TypeId := match P.underlying t with
 | some (.slice e) => some e
 | _ => none
def isStrT (P : Program) (t : TypeId) : Bool := match P.underlying t with
 | some .string => true
 | _ => false
def intT (P : Program) (t : TypeId) : Option IntKind := match P.underlying t with
 | some (.int k) => some k
 | _ => none
def zeroT (P : Program) (t : TypeId) : Option (List AV) := ((P.info? t).bind (·.zero)).map fun z => z.cells.toList.map absV
def cellsOf : AV → Option (List AV)
 | .agg cs => some cs
 | .any | .tup _ | .obj .. | .dead _ | .iter .. | .icap .. => none
 | a => some [a]
def Env.ev (e : Env) : Operand → AV
 | .tmp t => e.gs t
 | .const v => absV v
 | .func f => .fn f []
 | .global g => match (default : DW).glob g with
   | some cs => .ptr cs
   | none => .any
def Env.cellsAt (e : Env) : AV → Option (List AV)
 | .ptr cs => some cs
 | .loc t v i off => match e.go t with
   | .obj v' _ _ _ _ xs => if v = v' then (xs[i]?).map (·.drop off) else none
   | _ => none
 | _ => none
def Env.load (e : Env) (P : Program) (ty : TypeId) (a : AV) : Option AV :=
 match e.cellsAt a, aggT P ty with
 | some cs, some true => match sizeT P ty with
   | some n => if n ≤ cs.length then some (.agg (cs.take n)) else none
   | none => none
 | some (c :: _), some false => some c
 | _, _ => none
def Env.store (e : Env) (P : Program) (ty : TypeId) (a x : AV) : Option Ws :=
 match a with
 | .loc t v i off => match e.go t with
   | .obj v' oty esz false pu xs => if v = v' then
      match xs[i]?, cellsOf x, sizeT P ty with
      | some row, some cs, some n =>
        if cs.length = n then if off + n ≤ row.length then if cs.all AV.cellQ = true then
         some [(.o t, .obj v' oty esz false (pu && cs.all AV.cellP) (xs.set i (row.take off ++ cs ++ row.drop (off + n))))]
        else none else none else none
      | _, _, _ => none
     else none
   | _ => none
 | _ => none
def Env.frz1 (e : Env) : AV → Option (AV × Ws)
 | .ref t v => match e.go t with
   | .obj v' ty esz _ true xs => if v = v' then some (.sl xs, [(.o t, .obj v' ty esz true true xs)]) else none
   | _ => none
 | .loc t v i off => match e.go t with
   | .obj v' ty esz _ pu xs => if v = v' then
      match xs[i]? with
      | some row => if (row.drop off).all AV.cellP = true then some (.ptr (row.drop off), [(.o t, .obj v' ty esz true pu xs)]) else none
      | none => none
     else none
   | _ => none
 | .win t v k n => match e.go t with
   | .obj v' ty esz _ true xs => if v = v' then if k + n ≤ xs.length then some (.sl ((xs.drop k).take n), [(.o t, .obj v' ty esz true true xs)]) else none else none
   | _ => none
 | a => if a.cellP = true then some (a, []) else none
def Env.frzL (e : Env) : List AV → Option (List AV × Ws)
 | [] => some ([], [])
 | a :: as => match e.frz1 a, e.frzL as with
   | some (a', w), some (as', ws) => some (a' :: as', w ++ ws)
   | _, _ => none
def Env.frz (e : Env) : AV → Option (AV × Ws)
 | .agg cs => match e.frzL cs with
   | some (cs', ws) => some (.agg cs', ws)
   | none => none
 | a => e.frz1 a
def Env.frzA (e : Env) : List AV → Option (List AV × Ws)
 | [] => some ([], [])
 | a :: as => match e.frz a, e.frzA as with
   | some (a', w), some (as', ws) => some (a' :: as', w ++ ws)
   | _, _ => none
def Env.frz1s (e : Env) (a : AV) : Option (AV × Ws) := match e.frz1 a with
 | some p => some p
 | none => if a.cellQ = true then some (a, []) else none
def Env.frzLs (e : Env) : List AV → Option (List AV × Ws)
 | [] => some ([], [])
 | a :: as => match e.frz1s a, e.frzLs as with
   | some (a', w), some (as', ws) => some (a' :: as', w ++ ws)
   | _, _ => none
def Env.frzs (e : Env) : AV → Option (AV × Ws)
 | .agg cs => match e.frzLs cs with
   | some (cs', ws) => some (.agg cs', ws)
   | none => none
 | a => e.frz1s a
def Env.frzAs (e : Env) : List AV → Option (List AV × Ws)
 | [] => some ([], [])
 | a :: as => match e.frzs a, e.frzAs as with
   | some (a', w), some (as', ws) => some (a' :: as', w ++ ws)
   | _, _ => none
def oneS (o : Oper) (a : AV) : Ws := match o.dst with
 | some d => [(.s d, a)]
 | none => []
def addOff (off : Nat) : AV → Option AV
 | .ptr cs => some (.ptr (cs.drop off))
 | .loc t v i o => some (.loc t v i (o + off))
 | _ => none
def pickAV (t : Bool) : AV → AV → AV
 | .int k x, .int k' y => if k = k' then .int k (if t then x else y) else if t then .int k x else .int k' y
 | .bool x, .bool y => .bool (if t then x else y)
 | .str x, .str y => .str (if t then x else y)
 | a, b => if t then a else b
theorem pickAV_eq (t : Bool) (a b : AV) : pickAV t a b = if t then a else b := by
 cases t <;> cases a <;> cases b <;> simp [pickAV] <;> split <;> simp_all
def rowsLen (esz : Nat) (ys : List (List AV)) : Bool := ys.all fun x => x.length == esz
def Env.rows (e : Env) : AV → Option (Bool × List (List AV))
 | .nils | .emp => some (true, [])
 | .sl xs => some (true, xs)
 | .ref t v => match e.go t with
   | .obj v' _ _ _ pu xs => if v = v' then some (pu, xs) else none
   | _ => none
 | .win t v k n => match e.go t with
   | .obj v' _ _ _ pu xs => if v = v' then if k + n ≤ xs.length then some (pu, (xs.drop k).take n) else none else none
   | _ => none
 | _ => none
def Env.count (e : Env) : AV → Option Nat
 | .win t v k n => match e.go t with
   | .obj v' _ _ _ _ _ => if v = v' then some n else none
   | _ => none
 | x => (e.rows x).map (·.2.length)
def arrT (P : Program) (t : TypeId) : Option (Nat × TypeId) := match P.underlying t with
 | some (.array n e) => some (n, e)
 | _ => none
def arrIndex (P : Program) (ty : TypeId) (x : AV) (n : Int) : Option AV := match arrT P ty, x with
 | some (len, et), .ptr cs => match sizeT P et with
   | some esz => if 0 ≤ n then if n < (len : Int) then some (.ptr (cs.drop (n.toNat * esz))) else none else none
   | none => none
 | _, _ => none
def Env.index (e : Env) (P : Program) (ty : TypeId) (x : AV) (n : Int) : Option AV :=
 match (elemT P ty).bind (sizeT P) with
 | some esz => match x with
   | .sl xs => if 0 ≤ n then if n < xs.length then if (xs.getD n.toNat []).length = esz then some (.ptr (xs.getD n.toNat [])) else none else none else none
   | .ref t v => match e.go t with
     | .obj v' _ esz' _ _ xs => if v = v' then if esz' = esz then if 0 ≤ n then if n < xs.length then some (.loc t v n.toNat 0) else none else none else none else none
     | _ => none
   | .win t v k m => match e.go t with
     | .obj v' _ esz' _ _ xs => if v = v' then if esz' = esz then if 0 ≤ n then if n < m then if k + m ≤ xs.length then some (.loc t v (k + n.toNat) 0) else none else none else none else none else none
     | _ => none
   | _ => none
 | none => arrIndex P ty x n
def byteAt (s : ByteArray) (i : Nat) : Int := ((s.data.toList.getD i 0).toNat : Int)
def bound (dflt : Int) : Option AV → Option Int
 | none => some dflt
 | some (.int _ n) => some n
 | some _ => none
def within (l h n : Int) {α : Type} (x : α) : Option α := if 0 ≤ l then if l ≤ h then if h ≤ n then some x else none else none else none
def Env.cutW (e : Env) (P : Program) (ty : TypeId) (t v k : Nat) (n : Option Nat) (lo hi : Option AV) : Option (AV × Ws) :=
 match e.go t with
 | .obj v' _ esz' _ _ xs => if v = v' then
    match (elemT P ty).bind (sizeT P), bound 0 lo, bound ((n.getD xs.length : Nat) : Int) hi with
    | some esz, some l, some h => if esz' = esz then if k ≤ xs.length then within l h ((xs.length - k : Nat) : Int) (.win t v (k + l.toNat) (h.toNat - l.toNat), []) else none else none
    | _, _, _ => none
   else none
 | _ => none
def Env.cut3 (e : Env) (P : Program) (ty : TypeId) (x : AV) (lo hi : Option AV) (mx : AV) : Option AV :=
 match (elemT P ty).bind (sizeT P), e.rows x, bound 0 lo, hi, mx with
 | some _, some (_, xs), some l, some (.int _ h), .int _ m => if m ≤ xs.length then within l h m .any else none
 | _, _, _, _, _ => none
def Env.cut (e : Env) (P : Program) (ty : TypeId) (x : AV) (lo hi : Option AV) : Option (AV × Ws) :=
 match x with
 | .str s => if isStrT P ty = true then match bound 0 lo, bound s.size hi with
    | some l, some h => within l h s.size (.str (s.extract l.toNat h.toNat), [])
    | _, _ => none
   else none
 | .ref t v => e.cutW P ty t v 0 none lo hi
 | .win t v k n => e.cutW P ty t v k (some n) lo hi
 | .nils => match (elemT P ty).bind (sizeT P), bound 0 lo, bound 0 hi with
   | some _, some l, some h => within l h 0 (.nils, [])
   | _, _, _ => none
 | _ => match (elemT P ty).bind (sizeT P), e.frz1 x with
   | some esz, some (.sl xs, ws) => match bound 0 lo, bound xs.length hi with
     | some l, some h => if rowsLen esz xs = true then within l h xs.length (.sl ((xs.take h.toNat).drop l.toNat), ws) else none
     | _, _ => none
   | _, _ => none
def rowsQ (ys : List (List AV)) : Bool := ys.all fun x => x.all AV.cellQ
def Env.append (e : Env) (P : Program) (d : Nat) (sT : TypeId) (x y : AV) : Option (AV × Ws) :=
 match elemT P sT with
 | none => none
 | some et => match sizeT P et, bytesT P et, (zeroT P et).map List.length, e.rows y with
   | some esz, some byt, some zl, some (py, ys) =>
     if zl = esz ∧ 0 < esz then if rowsLen esz ys = true then if (py || rowsQ ys) = true then
      match x with
      | .nils | .emp => if ys.length * byt ≤ 140737488355328 then if ys.length ≤ maxLen then
         some (.ref d (nextVer (e.go d)), [(.o d, .obj (nextVer (e.go d)) et esz false py ys)]) else none else none
      | .ref t v => match e.go t with
        | .obj v' ty esz' fz pu xs => if v = v' then if ty = et ∧ esz' = esz then
           if (xs.length + ys.length) * byt ≤ 140737488355328 then if xs.length + ys.length ≤ maxLen then
            some (.ref d (if d = t then v' + 1 else nextVer (e.go d)),
             [(.o t, .dead v'), (.o d, .obj (if d = t then v' + 1 else nextVer (e.go d)) et esz fz (pu && py) (xs ++ ys))])
           else none else none else none else none
        | _ => none
      | .win t v k n => match e.go t with
        | .obj v' ty esz' false pu xs => if v = v' then if ty = et ∧ esz' = esz then if k + n + ys.length ≤ xs.length then if py = true then
           some (.win t v k (n + ys.length), [(.o t, .obj v' ty esz' false pu (xs.take (k + n) ++ ys ++ xs.drop (k + n + ys.length)))])
           else none else none else none else none
        | _ => none
      | _ => none
     else none else none else none
   | _, _, _, _ => none
def Env.make (e : Env) (P : Program) (d : Nat) (ty : TypeId) (l c : AV) : Option (AV × Ws) := match elemT P ty, l, c with
 | some et, .int _ n, .int _ m => match sizeT P et, zeroT P et, bytesT P et with
   | some esz, some z, some byt => if n = m then if 0 ≤ n then if n ≤ 16777216 then if n.toNat * byt ≤ 140737488355328 then if 0 < esz ∧ z.length = esz ∧ z.all AV.cellP = true then
      some (.ref d (nextVer (e.go d)), [(.o d, .obj (nextVer (e.go d)) et esz false true (List.replicate n.toNat z))]) else none else none else none else none else none
   | _, _, _ => none
 | _, _, _ => none
def Env.copyW (e : Env) (t v k n esz : Nat) (ys : List (List AV)) : Option (AV × Ws) := match e.go t with
 | .obj v' ty esz' false pu xs => if v = v' then if esz' = esz then if k + n ≤ xs.length then
    some (.int .i64 (min ys.length n : Nat), [(.o t, .obj v' ty esz' false pu (xs.take k ++ ys.take (min ys.length n) ++ xs.drop (k + min ys.length n)))])
   else none else none else none
 | _ => none
def Env.copy (e : Env) (P : Program) (sT : TypeId) (x y : AV) : Option (AV × Ws) := match elemT P sT with
 | none => none
 | some et => match sizeT P et, e.rows y with
   | some esz, some (true, ys) => if 0 < esz ∧ rowsLen esz ys = true then match x with
      | .ref t v => match e.go t with
        | .obj _ _ _ _ _ xs => e.copyW t v 0 xs.length esz ys
        | _ => none
      | .win t v k n => e.copyW t v k n esz ys
      | _ => none
     else none
   | _, _ => none
def Env.appendZ (e : Env) (P : Program) (d : Nat) (sT nT : TypeId) (x y : AV) : Option (AV × Ws) := match elemT P sT, intT P nT, x, y with
 | some et, some _, .nils, .int _ n => match sizeT P et, zeroT P et, bytesT P et with
   | some esz, some z, some byt => if 0 < n then if n ≤ 16777216 then if n.toNat * byt ≤ 140737488355328 then if 0 < esz ∧ z.length = esz ∧ z.all AV.cellP = true then
      some (.ref d (nextVer (e.go d)), [(.o d, .obj (nextVer (e.go d)) et esz false true (List.replicate n.toNat z))]) else none else none else none else none
   | _, _, _ => none
 | _, _, _, _ => none
def Env.iterNext (e : Env) (x : AV) : Option (AV × Ws) := match x with
 | .loc t v 0 0 => match e.go t with
   | .iter v' s pos => if v = v' then
      if pos < s.size then if byteAt s pos < 128 then some (.tup [.bool true, .int .i64 (pos : Nat), .int .i32 (byteAt s pos)], [(.o t, .iter v' s (pos + 1))]) else none
      else some (.tup [.bool false], []) else none
   | _ => none
 | _ => none
def Env.clear (e : Env) (P : Program) (sT : TypeId) (x : AV) : Option Ws :=
 match elemT P sT with
 | none => none
 | some et => match sizeT P et, zeroT P et, x with
   | some esz, some z, .win t v k n => if z.length = esz ∧ z.all AV.cellP = true then match e.go t with
     | .obj v' ty esz' false pu xs => if v = v' then if esz' = esz then if k + n ≤ xs.length then
        some [(.o t, .obj v' ty esz' false pu (xs.take k ++ List.replicate n z ++ xs.drop (k + n)))]
        else none else none else none
     | _ => none
     else none
   | _, _, _ => none
def cmpInt (op : BinOp) (k : IntKind) (x y : Int) : Option AV :=
 match op with
 | .add => some (.int k (k.wrap (x + y)))
 | .sub => some (.int k (k.wrap (x - y)))
 | .mul => some (.int k (k.wrap (x * y)))
 | .quo => if y = 0 then none else some (.int k (k.wrap (x.tdiv y)))
 | .rem => if y = 0 then none else some (.int k (x.tmod y))
 | .and => some (.int k (Go.bits .and k x y))
 | .or => some (.int k (Go.bits .or k x y))
 | .xor => some (.int k (Go.bits .xor k x y))
 | .andNot => some (.int k (Go.bits .andNot k x y))
 | .shl => if y < 0 then none else some (.int k (k.wrap (x * 2 ^ (min y.toNat k.bits))))
 | .shr => if y < 0 then none else some (.int k (x.fdiv (2 ^ (min y.toNat k.bits))))
 | .eql => some (.bool (decide (x = y)))
 | .neq => some (.bool (decide (¬ x = y)))
 | .lss => some (.bool (decide (x < y)))
 | .leq => some (.bool (decide (x ≤ y)))
 | .gtr => some (.bool (decide (y < x)))
 | .geq => some (.bool (decide (y ≤ x)))
def cmpStr (op : BinOp) (x y : ByteArray) : Option AV :=
 match op with
 | .add => if ((x.size + y.size : Nat) : Int) ≤ 9223372036854775807 then some (.str (x ++ y)) else none
 | .eql => some (.bool (decide (x = y)))
 | .neq => some (.bool (decide (¬ x = y)))
 | .lss => some (.bool (Op.bytesLess x.toList y.toList))
 | .gtr => some (.bool (!(Op.bytesLess x.toList y.toList || x.toList == y.toList)))
 | .leq => some (.bool (Op.bytesLess x.toList y.toList || x.toList == y.toList))
 | .geq => some (.bool (!Op.bytesLess x.toList y.toList))
 | _ => none
def cmpBool (op : BinOp) (x y : Bool) : Option AV :=
 match op with
 | .eql => some (.bool (x == y))
 | .neq => some (.bool (!(x == y)))
 | _ => none
def isBoolT (P : Program) (t : TypeId) : Bool := match P.underlying t with
 | some .bool => true
 | _ => false
inductive SK where
 | int
 | bool
 | str
def eqFs (g : TypeId → Option (List SK)) : Nat → List Field → Option (List SK)
 | _, [] => some []
 | off, f :: fs => if f.name = "_" then none else if f.offset = off then match g f.type with
   | some ks => (eqFs g (off + ks.length) fs).map (ks ++ ·)
   | none => none else none
def eqT (P : Program) : Nat → TypeId → Option (List SK)
 | 0, _ => none
 | d + 1, t => match P.underlying t with
   | some .bool => some [.bool]
   | some (.int _) => some [.int]
   | some .string => some [.str]
   | some (.struct fs) => if P.stoodInHeld t = true then none else match eqFs (eqT P d) 0 fs.toList with
     | some ks => if sizeT P t = some ks.length then some ks else none
     | none => none
   | _ => none
def eqK (P : Program) (t : TypeId) : Option (List SK) := if P.eqGuardType P.depth t = true then none else if aggT P t = some true then eqT P 9 t else none
def eqCells : List SK → List AV → List AV → Option Bool
 | [], [], [] => some true
 | .int :: ks, .int k a :: xs, .int k' b :: ys => if k = k' then (eqCells ks xs ys).map (decide (a = b) && ·) else none
 | .bool :: ks, .bool a :: xs, .bool b :: ys => (eqCells ks xs ys).map ((a == b) && ·)
 | .str :: ks, .str a :: xs, .str b :: ys => (eqCells ks xs ys).map (decide (a = b) && ·)
 | _, _, _ => none
def cmpAgg (op : BinOp) (r : Option Bool) : Option AV := match r with
 | some b => match op with
   | .eql => some (.bool b)
   | .neq => some (.bool (!b))
   | _ => none
 | none => none
def cmpNil (op : BinOp) (et : Option TypeId) (n : Nat) : Option AV := match et with
 | some _ => match op with
   | .eql => if n = 0 then some .ub else some (.bool false)
   | .neq => if n = 0 then some .ub else some (.bool true)
   | _ => none
 | none => none
def absBin (P : Program) (op : BinOp) (xT : TypeId) : AV → AV → Option AV
 | .int k x, .int k' y => if k = k' then cmpInt op k x y else match op with
   | .shl => cmpInt .shl k x y
   | .shr => cmpInt .shr k x y
   | _ => none
 | .str x, .str y => cmpStr op x y
 | .bool x, .bool y => if isBoolT P xT = true then cmpBool op x y else none
 | .agg xs, .agg ys => cmpAgg op ((eqK P xT).bind fun ks => eqCells ks xs ys)
 | .sl xs, .nils => cmpNil op (elemT P xT) xs.length
 | .nils, .nils => cmpNil op (elemT P xT) 0
 | _, _ => none
def absUn (op : UnOp) : AV → Option AV
 | .int k x => match op with
   | .neg => some (.int k (k.wrap (0 - x)))
   | .xor => some (.int k (Go.bits .xor k (if k.signed then -1 else k.max) x))
   | _ => none
 | .bool b => match op with
   | .not => some (.bool !b)
   | _ => none
 | _ => none
def isBytesT (P : Program) (t : TypeId) : Bool := match P.underlying t with
 | some (.slice e) => match P.underlying e with
   | some (.int .u8) => true
   | _ => false
 | _ => false
def bytesAV (s : ByteArray) : List (List AV) := s.data.toList.map fun b => [.int .u8 (b.toNat : Int)]
def absConv (P : Program) (src dst : TypeId) : AV → Option AV
 | .int _ n => match P.underlying src, intT P dst with
   | some _, some k => some (.int k (k.wrap n))
   | _, _ => none
 | .str s => match P.underlying src with
   | some _ => if isBytesT P dst = true then if isStrT P src = true then some (.sl (bytesAV s)) else none else if isStrT P dst = true then some (.str s) else none
   | none => none
 | _ => none
def strOf : List (List AV) → Option (List UInt8)
 | [] => some []
 | [.int .u8 n] :: rest => (strOf rest).map (UInt8.ofNat n.toNat :: ·)
 | _ => none
def Env.conv (e : Env) (P : Program) (src dst : TypeId) (x : AV) : Option AV := match e.rows x with
 | some (_, ys) => if isBytesT P src = true then if isStrT P dst = true then (strOf ys).map fun l => .str ⟨l.toArray⟩ else none else none
 | none => absConv P src dst x
def layParts (place : Nat → Option (Nat × Nat)) : List AV → List (Nat × AV) → Option (List AV)
 | cells, [] => some cells
 | cells, (i, a) :: rest => match place i, cellsOf a with
   | some (off, n), some cs => if cs.length = n then if off + n ≤ cells.length then layParts place (cells.take off ++ cs ++ cells.drop (off + n)) rest else none else none
   | _, _ => none
def placesT (P : Program) (t : TypeId) : Option (List (Nat × Nat)) := match P.underlying t with
 | some (.struct fs) => fs.toList.mapM fun f => (sizeT P f.type).map fun n => (f.offset, n)
 | _ => none
def chop (esz : Nat) : Nat → List AV → List (List AV)
 | 0, _ => []
 | n + 1, l => l.take esz :: chop esz n (l.drop esz)
def scalarAV : AV → Bool
 | .int .. | .bool _ | .str _ => true
 | _ => false
def AV.flat : AV → Bool
 | .tup vs => vs.all scalarAV
 | a => scalarAV a
def AV.pureR : AV → Bool
 | .tup vs => vs.all AV.pure
 | a => a.pure
def Good (P : Program) (f : FuncId) (args : List AV) (r : AV) : Prop :=
 r.pureR = true ∧
 ∀ (w : World) (Pr : Nat → Nat → Prop) (vs : Array Value), vs.size = args.length →
  (∀ (i : Nat) (a : AV) (v : Value), args[i]? = some a → vs[i]? = some v → VRel ⟨Pr, fun _ => none, fun _ => 0⟩ w a v) →
  (∀ b o, Pr b o → b < w.heap.size) → Gl Pr w →
  Calls P f vs w fun e w' => ∃ v Pr', e = .returned v ∧ VRel ⟨Pr', fun _ => none, fun _ => 0⟩ w' r v ∧
   (∀ b o, Pr b o → Pr' b o) ∧ (∀ b o, b < w.heap.size → Pr' b o → Pr b o) ∧ (∀ b o, Pr' b o → b < w'.heap.size) ∧ BelowD w w'
def absOp (P : Program) (e : Env) (o : Oper) : Option Ws :=
 match o.op with
 | .move x | .assign x => some (oneS o (e.ev x))
 | .pick c a b => match e.ev c with
   | .bool t => some (oneS o (pickAV t (e.ev a) (e.ev b)))
   | _ => none
 | .alloc ty => match o.dst, zeroT P ty with
   | some d, some cs => some [(.o d, .obj (nextVer (e.go d)) ty cs.length false false [cs]), (.s d, .loc d (nextVer (e.go d)) 0 0)]
   | _, _ => none
 | .box ty x => match o.dst, cellsOf (e.ev x) with
   | some d, some cs => if 0 < cs.length then some [(.o d, .obj (nextVer (e.go d)) ty cs.length false false [cs]), (.s d, .loc d (nextVer (e.go d)) 0 0)] else none
   | _, _ => none
 | .load ty x => (e.load P ty (e.ev x)).map (oneS o)
 | .store ty x y => (e.store P ty (e.ev x) (e.ev y)).map (· ++ oneS o .any)
 | .nilCheck x => match e.cellsAt (e.ev x) with
   | some _ => some (oneS o (e.ev x))
   | none => none
 | .binOp op xT x y _ => (absBin P op xT (e.ev x) (e.ev y)).map (oneS o)
 | .unOp op _ x => (absUn op (e.ev x)).map (oneS o)
 | .convert s d x => (e.conv P s d (e.ev x)).map (oneS o)
 | .fieldAddr ty x f => match fieldT P ty f, e.cellsAt (e.ev x) with
   | some (off, ft), some _ => match sizeT P ft with
     | some (_ + 1) => (addOff off (e.ev x)).map (oneS o)
     | _ => none
   | _, _ => none
 | .field ty x f => match fieldT P ty f, e.ev x with
   | some (off, ft), .agg cs => match aggT P ft with
     | some true => match sizeT P ft with
       | some n => if off + n ≤ cs.length then some (oneS o (.agg ((cs.drop off).take n))) else none
       | none => none
     | some false => match cs[off]? with
       | some c => some (oneS o c)
       | none => none
     | none => none
   | _, _ => none
 | .indexAddr ty x i => match e.ev i with
   | .int _ n => (e.index P ty (e.ev x) n).map (oneS o)
   | _ => none
 | .index ty x i => match e.ev x, e.ev i with
   | .str s, .int _ n => if isStrT P ty = true then if 0 ≤ n then if n < s.size then some (oneS o (.int .u8 (byteAt s n.toNat))) else none else none else none
   | _, _ => none
 | .slice ty x lo hi none => match e.cut P ty (e.ev x) (lo.map e.ev) (hi.map e.ev) with
   | some (a, ws) => some (ws ++ oneS o a)
   | none => none
 | .slice ty x lo hi (some mx) => (e.cut3 P ty (e.ev x) (lo.map e.ev) (hi.map e.ev) (e.ev mx)).map (oneS o)
 | .range xT x => match o.dst, e.ev x with
   | some d, .str s => if isStrT P xT = true then some [(.o d, .iter (nextVer (e.go d)) s 0), (.s d, .loc d (nextVer (e.go d)) 0 0)] else none
   | _, _ => none
 | .next x true => match e.iterNext (e.ev x) with
   | some (a, ws) => some (ws ++ oneS o a)
   | none => none
 | .makeSlice ty l c => match o.dst with
   | some d => match e.make P d ty (e.ev l) (e.ev c) with
     | some (a, ws) => some (ws ++ [(.s d, a)])
     | none => none
   | none => none
 | .extract x i => match e.ev x with
   | .tup vs => match vs[i]? with
     | some a => some (oneS o a)
     | none => none
   | _ => none
 | .makeFunc (.func f) first caps => if first.size = 0 then match e.frzA (caps.toList.map e.ev) with
    | some (cs, ws) => if cs.all AV.cellP = true then some (ws ++ oneS o (.fn f cs)) else none
    | none => none
   else none
 | .build ty parts => match placesT P ty, zeroT P ty with
   | some pl, some z => match layParts (fun i => pl[i]?) z (parts.toList.map fun p => (p.1, e.ev p.2)) with
     | some cs => some (oneS o (.agg cs))
     | none => none
   | _, _ => none
 | .buildSlice ty n parts => match o.dst, elemT P ty with
   | some d, some et => match sizeT P et, zeroT P et with
     | some esz, some z => if 0 < esz ∧ z.length = esz ∧ n * esz ≤ 16777216 then
        match e.frzAs (parts.toList.map fun p => e.ev p.2) with
        | some (as, ws) => match layParts (fun i => some (i * esz, esz)) (List.replicate n z).flatten ((parts.toList.map (·.1)).zip as) with
          | some cs => if cs.length = n * esz ∧ cs.all AV.cellQ = true then some (ws ++ [(.o d, .obj (nextVer (e.go d)) et esz false (cs.all AV.cellP) (chop esz n cs)), (.s d, .ref d (nextVer (e.go d)))]) else none
          | none => none
        | none => none
       else none
     | _, _ => none
   | _, _ => none
 | .call { callee := .builtin b, args, argTypes } => match b, args.toList.map e.ev, argTypes.toList with
   | .len, [x], [t] => match x with
     | .str s => if isStrT P t = true then some (oneS o (.int .i64 s.size)) else none
     | x => match elemT P t, e.count x with
       | some _, some n => some (oneS o (.int .i64 n))
       | _, _ => none
   | .cap, [x], [t] => match elemT P t, x with
     | some _, .nils => some (oneS o (.int .i64 0))
     | _, _ => none
   | .copy, [x, y], [t, _] => match e.copy P t x y with
     | some (a, ws) => some (ws ++ oneS o a)
     | none => none
   | .clear, [x], [t] => (e.clear P t x).map (· ++ oneS o .any)
   | .append, [x, y], [t, t'] => if t = t' then match o.dst with
      | some d => match e.append P d t x y with
        | some (a, ws) => some (ws ++ [(.s d, a)])
        | none => none
      | none => none
     else match o.dst with
      | some d => match e.appendZ P d t t' x y with
        | some (a, ws) => some (ws ++ [(.s d, a)])
        | none => none
      | none => none
   | .max, [.int k x, .int k' y], _ => if k = k' then some (oneS o (.int k (if x < y then y else x))) else none
   | .min, [.int k x, .int k' y], _ => if k = k' then some (oneS o (.int k (if y < x then y else x))) else none
   | _, _, _ => none
 | _ => none
end Go.Proofs.YtbhgehhmjpipiaaGreatDoor.Ab
