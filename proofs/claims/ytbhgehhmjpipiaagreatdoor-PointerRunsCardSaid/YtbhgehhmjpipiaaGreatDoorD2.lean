/- Chapter 12: the data of cases, capabilities and derivations. -/
import Derived.Test.YtbhgehhmjpipiaaGreatDoorD0
import Derived.Test.YtbhgehhmjpipiaaGreatDoorP37b
namespace Go.Proofs.YtbhgehhmjpipiaaGreatDoor.C12
open Go Go.Proofs Go.Proofs.YtbhgehhmjpipiaaGreatDoor.Ab Go.Proofs.YtbhgehhmjpipiaaGreatDoor.C10
structure Case where
 sec : Sec
 users : List ByteArray
deriving Inhabited
def encCase (c : Case) : List AV := [.sl (c.sec.profiles.map encProf), .sl (c.sec.lists.map encAList), .sl (c.sec.objects.map encSecured), .sl (c.users.map encStr)]
def encCap (x : Cap) : List AV := [.int .i64 x.job, .int .i64 x.object, .int .i64 x.kind, .int .i64 x.auth]
def encDer (x : Der) : List AV := [.int .i64 x.cap.job, .int .i64 x.cap.object, .int .i64 x.cap.kind, .int .i64 x.cap.auth, .int .i64 x.kind, .int .i64 x.source, .int .i64 x.writer, .int .i64 x.reader]
def encCOp (o : COp) : List AV := [.int .i64 o.kind, .int .i64 o.job, .int .i64 o.src, .int .i64 o.dst, .int .i64 o.pointer, .int .i64 o.object, .int .i64 o.auth, .str o.data]
attribute [go_sem] encCase encCap encDer encCOp
@[go_sem] theorem rl_encCap (l : List Cap) : rowsLen 4 (l.map encCap) = true := rowsLen_map fun _ => rfl
@[go_sem] theorem rl_encDer (l : List Der) : rowsLen 8 (l.map encDer) = true := rowsLen_map fun _ => rfl
@[go_sem] theorem rl_encCOp (l : List COp) : rowsLen 8 (l.map encCOp) = true := rowsLen_map fun _ => rfl
theorem rowsP_map {α : Type} {f : α → List AV} {l : List α} (h : ∀ a, (f a).all AV.cellP = true) : rowsP (l.map f) = true := by simp [rowsP, h]
@[go_sem] theorem rf_encCap (l : List Cap) : rowsF (l.map encCap) = true := rowsF_map fun _ => rfl
@[go_sem] theorem rf_encDer (l : List Der) : rowsF (l.map encDer) = true := rowsF_map fun _ => rfl
@[go_sem] theorem rp_encCap (l : List Cap) : rowsP (l.map encCap) = true := rowsP_map fun _ => rfl
@[go_sem] theorem rp_encDer (l : List Der) : rowsP (l.map encDer) = true := rowsP_map fun _ => rfl
@[go_sem] theorem rowsP_nil : rowsP [] = true := rfl
@[go_sem] theorem rowsP_cons (x : List AV) (l : List (List AV)) : rowsP (x :: l) = (x.all AV.cellP && rowsP l) := rfl
def encB (b : Bool) : List AV := [.bool b]
def encStg (s : Stg) : List AV := [.str s.bytes, .sl (s.tags.map encB)]
def encSt (s : St) : List AV := [.sl (s.jobs.map encStg), .sl (s.spaces.map encStg)]
def encPtr (p : Ptr) : List AV := [.int .i64 p.kind, .int .i64 p.seg, .int .i64 p.off, .int .i64 p.auth]
attribute [go_sem] encB encStg encSt encPtr
@[go_sem] theorem rl_encB (l : List Bool) : rowsLen 1 (l.map encB) = true := rowsLen_map fun _ => rfl
@[go_sem] theorem rl_encStg (l : List Stg) : rowsLen 2 (l.map encStg) = true := rowsLen_map fun _ => rfl
@[go_sem] theorem rl_encPtr (l : List Ptr) : rowsLen 4 (l.map encPtr) = true := rowsLen_map fun _ => rfl
@[go_sem] theorem rf_encB (l : List Bool) : rowsF (l.map encB) = true := rowsF_map fun _ => rfl
@[go_sem] theorem rp_encB (l : List Bool) : rowsP (l.map encB) = true := rowsP_map fun _ => rfl
@[go_sem] theorem rp_encStg (l : List Stg) : rowsP (l.map encStg) = true := rowsP_map fun _ => rfl
@[go_sem] theorem rp_encPtr (l : List Ptr) : rowsP (l.map encPtr) = true := rowsP_map fun _ => rfl
end Go.Proofs.YtbhgehhmjpipiaaGreatDoor.C12
