/- Chapter 9: the data of directories, library lists, requests. -/
import Derived.Test.YtppjmigiogddpaaGreatTy
import Derived.Test.YtppjmigiogddpaaGreatAb17
import Derived.Test.YtppjmigiogddpaaGreatAb18
namespace Go.Proofs.YtppjmigiogddpaaGreat.C08
open Go Go.Proofs Go.Proofs.YtppjmigiogddpaaGreat.Ab

theorem mixed : Tryz.prog.follows .mixedOrders = true := by kernel_rfl

def encStr (s : ByteArray) : List AV := [.str s]
def encInt (n : Int) : List AV := [.int .i64 n]
structure OName where
  lib : ByteArray
  name : ByteArray
  type : Int
deriving Inhabited, DecidableEq
def encOName (n : OName) : List AV := [.str n.lib, .str n.name, .int .i64 n.type]
structure Obj where
  name : OName
  owner : ByteArray
  seg : Int
  text : ByteArray
  content : ByteArray
deriving Inhabited, DecidableEq
def encObj (o : Obj) : List AV := [.str o.name.lib, .str o.name.name, .int .i64 o.name.type, .str o.owner, .int .i64 o.seg, .str o.text, .str o.content]
structure Dir where
  objects : List Obj
  next : Int
deriving Inhabited, DecidableEq
def encDir (d : Dir) : List AV := [.sl (d.objects.map encObj), .int .i64 d.next]
structure LList where
  system : List ByteArray
  current : ByteArray
  user : List ByteArray
deriving Inhabited, DecidableEq
def encLL (l : LList) : List AV := [.sl (l.system.map encStr), .str l.current, .sl (l.user.map encStr)]
structure QName where
  lib : ByteArray
  name : ByteArray
  generic : Bool
deriving Inhabited, DecidableEq
def encQ (q : QName) : List AV := [.str q.lib, .str q.name, .bool q.generic]
structure Reso where
  name : QName
  type : Int
deriving Inhabited, DecidableEq
def encReso (r : Reso) : List AV := [.str r.name.lib, .str r.name.name, .bool r.name.generic, .int .i64 r.type]
structure LEntry where
  lib : ByteArray
  pos : Int
  ref : ByteArray
deriving Inhabited, DecidableEq
def encLE (x : LEntry) : List AV := [.str x.lib, .int .i64 x.pos, .str x.ref]
attribute [go_sem] encStr encInt encOName encObj encDir encLL encQ encReso encLE

@[go_sem] theorem rl_encStr (l : List ByteArray) : rowsLen 1 (l.map encStr) = true := rowsLen_map fun _ => rfl
@[go_sem] theorem rl_encInt (l : List Int) : rowsLen 1 (l.map encInt) = true := rowsLen_map fun _ => rfl
@[go_sem] theorem rl_encObj (l : List Obj) : rowsLen 7 (l.map encObj) = true := rowsLen_map fun _ => rfl
@[go_sem] theorem rl_encOName (l : List OName) : rowsLen 3 (l.map encOName) = true := rowsLen_map fun _ => rfl

end Go.Proofs.YtppjmigiogddpaaGreat.C08
