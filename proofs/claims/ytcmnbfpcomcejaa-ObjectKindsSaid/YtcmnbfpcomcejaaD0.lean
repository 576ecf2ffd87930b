/- Chapter 8: the data of directories. -/
import Derived.Test.YtcmnbfpcomcejaaTy
import Derived.Test.YtcmnbfpcomcejaaAb17
import Derived.Test.YtcmnbfpcomcejaaAb18
namespace Go.Proofs.Ytcmnbfpcomcejaa.C08
open Go Go.Proofs Go.Proofs.Ytcmnbfpcomcejaa.Ab

theorem mixed : Try.prog.follows .mixedOrders = true := by kernel_rfl

def encStr (s : ByteArray) : List AV := [.str s]
def encInt (n : Int) : List AV := [.int .i64 n]
structure OName where
  lib : ByteArray
  name : ByteArray
  type : Int
deriving Inhabited, DecidableEq
def encOName (n : OName) : List AV := [.str n.lib, .str n.name, .int .i64 n.type]
structure Obj where
  name : OName
  owner : ByteArray
  seg : Int
  text : ByteArray
  content : ByteArray
deriving Inhabited, DecidableEq
def encObj (o : Obj) : List AV := [.str o.name.lib, .str o.name.name, .int .i64 o.name.type, .str o.owner, .int .i64 o.seg, .str o.text, .str o.content]
structure Dir where
  objects : List Obj
  next : Int
deriving Inhabited, DecidableEq
def encDir (d : Dir) : List AV := [.sl (d.objects.map encObj), .int .i64 d.next]
structure Action where
  kind : Int
  object : Obj
  name : ByteArray
deriving Inhabited, DecidableEq
def encAction (a : Action) : List AV := [.int .i64 a.kind, .str a.object.name.lib, .str a.object.name.name, .int .i64 a.object.name.type, .str a.object.owner, .int .i64 a.object.seg, .str a.object.text, .str a.object.content, .str a.name]
attribute [go_sem] encStr encInt encOName encObj encDir encAction

@[go_sem] theorem rl_encStr (l : List ByteArray) : rowsLen 1 (l.map encStr) = true := rowsLen_map fun _ => rfl
@[go_sem] theorem rl_encInt (l : List Int) : rowsLen 1 (l.map encInt) = true := rowsLen_map fun _ => rfl
@[go_sem] theorem rl_encObj (l : List Obj) : rowsLen 7 (l.map encObj) = true := rowsLen_map fun _ => rfl
@[go_sem] theorem rl_encAction (l : List Action) : rowsLen 9 (l.map encAction) = true := rowsLen_map fun _ => rfl

end Go.Proofs.Ytcmnbfpcomcejaa.C08
