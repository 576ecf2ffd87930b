/- Chapter 10: the data of the security information. -/
import Derived.Test.YtbhgehhmjpipiaaGreatDoorTy
import Derived.Test.YtbhgehhmjpipiaaGreatDoorAb18
namespace Go.Proofs.YtbhgehhmjpipiaaGreatDoor.C10
open Go Go.Proofs Go.Proofs.YtbhgehhmjpipiaaGreatDoor.Ab
def usesL : List AV := [.bool false, .bool true, .bool false, .bool false, .bool true, .bool false, .bool false, .bool false, .bool false, .bool true, .bool false, .bool false, .bool true, .bool true, .bool false, .bool false, .bool false, .bool false, .bool true, .bool true, .bool false, .bool false, .bool false, .bool false, .bool true, .bool false, .bool false, .bool false, .bool false, .bool true, .bool true, .bool true, .bool false, .bool false, .bool false, .bool false, .bool true, .bool true, .bool true, .bool false, .bool false, .bool false, .bool true, .bool true, .bool true, .bool false, .bool false, .bool false, .bool false, .bool false, .bool true, .bool true, .bool false, .bool false]
instance dwOff : Inhabited DW := ⟨⟨False, fun g => if g = 0 then some usesL else none⟩⟩
@[go_sem] theorem glob0 : (default : DW).glob 0 = some usesL := rfl
theorem mixed : Tryz.prog.follows .mixedOrders = true := by kernel_rfl
def encStr (s : ByteArray) : List AV := [.str s]
def encInt (n : Int) : List AV := [.int .i64 n]
structure Prof where
 name : ByteArray
 groups : List ByteArray
 special : Int
deriving Inhabited
def encProf (p : Prof) : List AV := [.str p.name, .sl (p.groups.map encStr), .int .i64 p.special]
structure Grant where
 user : ByteArray
 auth : Int
deriving Inhabited
def encGrant (g : Grant) : List AV := [.str g.user, .int .i64 g.auth]
structure AList where
 name : ByteArray
 owner : ByteArray
 grants : List Grant
 pub : Int
deriving Inhabited
def encAList (l : AList) : List AV := [.str l.name, .str l.owner, .sl (l.grants.map encGrant), .int .i64 l.pub]
structure OName where
 lib : ByteArray
 name : ByteArray
 type : Int
deriving Inhabited
def encOName (n : OName) : List AV := [.str n.lib, .str n.name, .int .i64 n.type]
structure Secured where
 name : OName
 owner : ByteArray
 grants : List Grant
 list : ByteArray
 pub : Int
 byList : Bool
deriving Inhabited
def encSecured (o : Secured) : List AV := [.str o.name.lib, .str o.name.name, .int .i64 o.name.type, .str o.owner, .sl (o.grants.map encGrant), .str o.list, .int .i64 o.pub, .bool o.byList]
structure Sec where
 profiles : List Prof
 lists : List AList
 objects : List Secured
deriving Inhabited
def encSec (s : Sec) : List AV := [.sl (s.profiles.map encProf), .sl (s.lists.map encAList), .sl (s.objects.map encSecured)]
structure Found where
 auth : Int
 reason : Int
 by_ : ByteArray
deriving Inhabited
def encFound (f : Found) : List AV := [.int .i64 f.auth, .int .i64 f.reason, .str f.by_]
structure Req where
 user : ByteArray
 adopters : List ByteArray
 object : Int
 needed : Int
deriving Inhabited
def encReq (r : Req) : List AV := [.str r.user, .sl (r.adopters.map encStr), .int .i64 r.object, .int .i64 r.needed]
attribute [go_sem] encStr encInt encProf encGrant encAList encOName encSecured encSec encFound encReq
@[go_sem] theorem rl_encStr (l : List ByteArray) : rowsLen 1 (l.map encStr) = true := rowsLen_map fun _ => rfl
@[go_sem] theorem rl_encInt (l : List Int) : rowsLen 1 (l.map encInt) = true := rowsLen_map fun _ => rfl
@[go_sem] theorem rl_encProf (l : List Prof) : rowsLen 3 (l.map encProf) = true := rowsLen_map fun _ => rfl
@[go_sem] theorem rl_encGrant (l : List Grant) : rowsLen 2 (l.map encGrant) = true := rowsLen_map fun _ => rfl
@[go_sem] theorem rl_encAList (l : List AList) : rowsLen 4 (l.map encAList) = true := rowsLen_map fun _ => rfl
@[go_sem] theorem rl_encSecured (l : List Secured) : rowsLen 8 (l.map encSecured) = true := rowsLen_map fun _ => rfl
@[go_sem] theorem rl_encReq (l : List Req) : rowsLen 4 (l.map encReq) = true := rowsLen_map fun _ => rfl
theorem onodup_of {out : List (Nat × AV)} {l : List Nat} (hl : out.map Prod.fst = l) (h : l.Nodup) : ∀ (k k' : Nat) (p p' : Nat × AV), out[k]? = some p → out[k']? = some p' → p.1 = p'.1 → k = k' := by
 intro k k' p p' h1 h2 h3
 subst hl
 have a1 : (out.map Prod.fst)[k]? = some p.1 := by rw [List.getElem?_map, h1]; rfl
 have a2 : (out.map Prod.fst)[k']? = some p.1 := by rw [List.getElem?_map, h2, h3]; rfl
 obtain ⟨b1, c1⟩ := List.getElem?_eq_some_iff.1 a1
 obtain ⟨b2, c2⟩ := List.getElem?_eq_some_iff.1 a2
 exact (List.getElem_inj (h₀ := b1) (h₁ := b2) h).1 (by rw [c1, c2])
end Go.Proofs.YtbhgehhmjpipiaaGreatDoor.C10
