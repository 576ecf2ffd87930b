/- Chapter 6: the data of disks. -/
import Derived.Test.YtdfdagfgkijpcaaTy
import Derived.Test.YtdfdagfgkijpcaaAb17
import Derived.Test.YtdfdagfgkijpcaaAb18
import Derived.Test.YtdfdagfgkijpcaaP20
namespace Go.Proofs.Ytdfdagfgkijpcaa.C06
open Go Go.Proofs Go.Proofs.Ytdfdagfgkijpcaa.Ab

instance dwOff : Inhabited DW := ⟨⟨False⟩⟩
theorem mixed : Try.prog.follows .mixedOrders = true := by kernel_rfl

def encStr (s : ByteArray) : List AV := [.str s]
def encInt (n : Int) : List AV := [.int .i64 n]
def encDU (u : DU) : List AV := [.int .i64 u.state, .sl (u.secs.map encStr)]
def encDisk (d : Disk) : List AV := [.int .i64 d.kind, .int .i64 d.size, .sl (d.units.map encDU)]
def encSW (w : SW) : List AV := [.int .i64 w.sector, .str w.bytes]
def encUW (x : UW) : List AV := [.int .i64 x.unit, .int .i64 x.sector, .str x.bytes]
def encByte (b : UInt8) : List AV := [.int .u8 (b.toNat : Int)]
attribute [go_sem] rowsF_nil rowsF_cons List.getElem?_nil
attribute [go_sem] encStr encInt encDU encDisk encSW encUW

@[go_sem] theorem rl_encStr (l : List ByteArray) : rowsLen 1 (l.map encStr) = true := rowsLen_map fun _ => rfl
@[go_sem] theorem rl_encInt (l : List Int) : rowsLen 1 (l.map encInt) = true := rowsLen_map fun _ => rfl
@[go_sem] theorem rl_encDU (l : List DU) : rowsLen 2 (l.map encDU) = true := rowsLen_map fun _ => rfl
@[go_sem] theorem rl_encSW (l : List SW) : rowsLen 2 (l.map encSW) = true := rowsLen_map fun _ => rfl
@[go_sem] theorem rl_encUW (l : List UW) : rowsLen 3 (l.map encUW) = true := rowsLen_map fun _ => rfl
@[go_sem] theorem rl_encByte (l : List UInt8) : rowsLen 1 (l.map encByte) = true := rowsLen_map fun _ => rfl
theorem rowsP_map {α : Type} {f : α → List AV} {l : List α} (h : ∀ a, (f a).all AV.cellP = true) : rowsP (l.map f) = true := by simp [rowsP, h]
@[go_sem] theorem rf_encUW (l : List UW) : rowsF (l.map encUW) = true := rowsF_map fun _ => rfl
@[go_sem] theorem rf_encStr (l : List ByteArray) : rowsF (l.map encStr) = true := rowsF_map fun _ => rfl
@[go_sem] theorem rp_encStr (l : List ByteArray) : rowsP (l.map encStr) = true := rowsP_map fun _ => rfl
@[go_sem] theorem rp_encUW (l : List UW) : rowsP (l.map encUW) = true := rowsP_map fun _ => rfl
@[go_sem] theorem rp_encDU (l : List DU) : rowsP (l.map encDU) = true := rowsP_map fun _ => rfl
@[go_sem] theorem rowsP_nil : rowsP [] = true := rfl
@[go_sem] theorem rowsP_cons (x : List AV) (l : List (List AV)) : rowsP (x :: l) = (x.all AV.cellP && rowsP l) := rfl
@[go_sem] theorem strOf_map (l : List UInt8) : strOf (l.map encByte) = some l := by
  induction l with
  | nil => rfl
  | cons b l ih =>
    simp only [List.map_cons, encByte, strOf]
    rw [ih]
    simp

end Go.Proofs.Ytdfdagfgkijpcaa.C06
