/- What the types of this seat are, for the abstract machine: printed by a program of this work, each row reckoned by the kernel. -/
import Derived.Test.YtbhgehhmjpipiaaGreatDoorAb15
import Derived.Test.YtbhgehhmjpipiaaGreatDoorProg
namespace Go.Proofs.YtbhgehhmjpipiaaGreatDoor.Ty
open Go Go.Proofs Go.Proofs.YtbhgehhmjpipiaaGreatDoor.Ab
@[go_sem] theorem sizeT_1 : sizeT Tryz.prog 1 = some 1 := by kernel_rfl
@[go_sem] theorem aggT_1 : aggT Tryz.prog 1 = some false := by kernel_rfl
@[go_sem] theorem bytesT_1 : bytesT Tryz.prog 1 = some 8 := by kernel_rfl
@[go_sem] theorem zeroT_1 : zeroT Tryz.prog 1 = some [AV.any] := by kernel_rfl
@[go_sem] theorem sizeT_2 : sizeT Tryz.prog 2 = some 1 := by kernel_rfl
@[go_sem] theorem aggT_2 : aggT Tryz.prog 2 = some false := by kernel_rfl
@[go_sem] theorem bytesT_2 : bytesT Tryz.prog 2 = some 8 := by kernel_rfl
@[go_sem] theorem zeroT_2 : zeroT Tryz.prog 2 = some [AV.int .i64 (0)] := by kernel_rfl
@[go_sem] theorem intT_2 : intT Tryz.prog 2 = some .i64 := by kernel_rfl
@[go_sem] theorem sizeT_3 : sizeT Tryz.prog 3 = some 1 := by kernel_rfl
@[go_sem] theorem aggT_3 : aggT Tryz.prog 3 = some false := by kernel_rfl
@[go_sem] theorem bytesT_3 : bytesT Tryz.prog 3 = some 8 := by kernel_rfl
@[go_sem] theorem zeroT_3 : zeroT Tryz.prog 3 = some [AV.int .i64 (0)] := by kernel_rfl
@[go_sem] theorem intT_3 : intT Tryz.prog 3 = some .i64 := by kernel_rfl
@[go_sem] theorem sizeT_4 : sizeT Tryz.prog 4 = some 1 := by kernel_rfl
@[go_sem] theorem aggT_4 : aggT Tryz.prog 4 = some false := by kernel_rfl
@[go_sem] theorem bytesT_4 : bytesT Tryz.prog 4 = some 1 := by kernel_rfl
@[go_sem] theorem zeroT_4 : zeroT Tryz.prog 4 = some [AV.bool false] := by kernel_rfl
@[go_sem] theorem isBoolT_4 : isBoolT Tryz.prog 4 = true := by kernel_rfl
@[go_sem] theorem sizeT_5 : sizeT Tryz.prog 5 = some 1 := by kernel_rfl
@[go_sem] theorem aggT_5 : aggT Tryz.prog 5 = some false := by kernel_rfl
@[go_sem] theorem bytesT_5 : bytesT Tryz.prog 5 = some 1 := by kernel_rfl
@[go_sem] theorem zeroT_5 : zeroT Tryz.prog 5 = some [AV.int .u8 (0)] := by kernel_rfl
@[go_sem] theorem intT_5 : intT Tryz.prog 5 = some .u8 := by kernel_rfl
@[go_sem] theorem sizeT_6 : sizeT Tryz.prog 6 = some 1 := by kernel_rfl
@[go_sem] theorem aggT_6 : aggT Tryz.prog 6 = some false := by kernel_rfl
@[go_sem] theorem bytesT_6 : bytesT Tryz.prog 6 = some 1 := by kernel_rfl
@[go_sem] theorem zeroT_6 : zeroT Tryz.prog 6 = some [AV.int .u8 (0)] := by kernel_rfl
@[go_sem] theorem intT_6 : intT Tryz.prog 6 = some .u8 := by kernel_rfl
@[go_sem] theorem sizeT_7 : sizeT Tryz.prog 7 = some 4 := by kernel_rfl
@[go_sem] theorem aggT_7 : aggT Tryz.prog 7 = some true := by kernel_rfl
@[go_sem] theorem bytesT_7 : bytesT Tryz.prog 7 = some 24 := by kernel_rfl
@[go_sem] theorem zeroT_7 : zeroT Tryz.prog 7 = some [AV.int .i64 (0), AV.int .i64 (0), AV.bool false, AV.int .u8 (0)] := by kernel_rfl
@[go_sem] theorem fieldT_7_0 : fieldT Tryz.prog 7 0 = some (0, 2) := by kernel_rfl
@[go_sem] theorem fieldT_7_1 : fieldT Tryz.prog 7 1 = some (1, 3) := by kernel_rfl
@[go_sem] theorem fieldT_7_2 : fieldT Tryz.prog 7 2 = some (2, 4) := by kernel_rfl
@[go_sem] theorem fieldT_7_3 : fieldT Tryz.prog 7 3 = some (3, 6) := by kernel_rfl
@[go_sem] theorem eqK_7 : eqK Tryz.prog 7 = some [.int, .int, .bool, .int] := by kernel_rfl
@[go_sem] theorem placesT_7 : placesT Tryz.prog 7 = some [(0, 1), (1, 1), (2, 1), (3, 1)] := by kernel_rfl
@[go_sem] theorem sizeT_9 : sizeT Tryz.prog 9 = some 1 := by kernel_rfl
@[go_sem] theorem aggT_9 : aggT Tryz.prog 9 = some false := by kernel_rfl
@[go_sem] theorem bytesT_9 : bytesT Tryz.prog 9 = some 16 := by kernel_rfl
@[go_sem] theorem zeroT_9 : zeroT Tryz.prog 9 = some [AV.str ⟨#[]⟩] := by kernel_rfl
@[go_sem] theorem isStrT_9 : isStrT Tryz.prog 9 = true := by kernel_rfl
@[go_sem] theorem isBytesT_9 : isBytesT Tryz.prog 9 = false := by kernel_rfl
@[go_sem] theorem sizeT_22 : sizeT Tryz.prog 22 = some 1 := by kernel_rfl
@[go_sem] theorem aggT_22 : aggT Tryz.prog 22 = some false := by kernel_rfl
@[go_sem] theorem bytesT_22 : bytesT Tryz.prog 22 = some 24 := by kernel_rfl
@[go_sem] theorem zeroT_22 : zeroT Tryz.prog 22 = some [AV.nils] := by kernel_rfl
@[go_sem] theorem elemT_22 : elemT Tryz.prog 22 = some 120 := by kernel_rfl
@[go_sem] theorem isBytesT_22 : isBytesT Tryz.prog 22 = false := by kernel_rfl
@[go_sem] theorem sizeT_23 : sizeT Tryz.prog 23 = some 1 := by kernel_rfl
@[go_sem] theorem aggT_23 : aggT Tryz.prog 23 = some false := by kernel_rfl
@[go_sem] theorem bytesT_23 : bytesT Tryz.prog 23 = some 24 := by kernel_rfl
@[go_sem] theorem zeroT_23 : zeroT Tryz.prog 23 = some [AV.nils] := by kernel_rfl
@[go_sem] theorem elemT_23 : elemT Tryz.prog 23 = some 130 := by kernel_rfl
@[go_sem] theorem isBytesT_23 : isBytesT Tryz.prog 23 = false := by kernel_rfl
@[go_sem] theorem sizeT_24 : sizeT Tryz.prog 24 = some 1 := by kernel_rfl
@[go_sem] theorem aggT_24 : aggT Tryz.prog 24 = some false := by kernel_rfl
@[go_sem] theorem bytesT_24 : bytesT Tryz.prog 24 = some 24 := by kernel_rfl
@[go_sem] theorem zeroT_24 : zeroT Tryz.prog 24 = some [AV.nils] := by kernel_rfl
@[go_sem] theorem elemT_24 : elemT Tryz.prog 24 = some 127 := by kernel_rfl
@[go_sem] theorem isBytesT_24 : isBytesT Tryz.prog 24 = false := by kernel_rfl
@[go_sem] theorem sizeT_26 : sizeT Tryz.prog 26 = some 3 := by kernel_rfl
@[go_sem] theorem aggT_26 : aggT Tryz.prog 26 = some true := by kernel_rfl
@[go_sem] theorem bytesT_26 : bytesT Tryz.prog 26 = some 72 := by kernel_rfl
@[go_sem] theorem zeroT_26 : zeroT Tryz.prog 26 = some [AV.nils, AV.nils, AV.nils] := by kernel_rfl
@[go_sem] theorem fieldT_26_0 : fieldT Tryz.prog 26 0 = some (0, 22) := by kernel_rfl
@[go_sem] theorem fieldT_26_1 : fieldT Tryz.prog 26 1 = some (1, 23) := by kernel_rfl
@[go_sem] theorem fieldT_26_2 : fieldT Tryz.prog 26 2 = some (2, 24) := by kernel_rfl
@[go_sem] theorem placesT_26 : placesT Tryz.prog 26 = some [(0, 1), (1, 1), (2, 1)] := by kernel_rfl
@[go_sem] theorem sizeT_27 : sizeT Tryz.prog 27 = some 1 := by kernel_rfl
@[go_sem] theorem aggT_27 : aggT Tryz.prog 27 = some false := by kernel_rfl
@[go_sem] theorem bytesT_27 : bytesT Tryz.prog 27 = some 24 := by kernel_rfl
@[go_sem] theorem zeroT_27 : zeroT Tryz.prog 27 = some [AV.nils] := by kernel_rfl
@[go_sem] theorem elemT_27 : elemT Tryz.prog 27 = some 9 := by kernel_rfl
@[go_sem] theorem isBytesT_27 : isBytesT Tryz.prog 27 = false := by kernel_rfl
@[go_sem] theorem sizeT_29 : sizeT Tryz.prog 29 = some 4 := by kernel_rfl
@[go_sem] theorem aggT_29 : aggT Tryz.prog 29 = some true := by kernel_rfl
@[go_sem] theorem bytesT_29 : bytesT Tryz.prog 29 = some 96 := by kernel_rfl
@[go_sem] theorem zeroT_29 : zeroT Tryz.prog 29 = some [AV.nils, AV.nils, AV.nils, AV.nils] := by kernel_rfl
@[go_sem] theorem fieldT_29_0 : fieldT Tryz.prog 29 0 = some (0, 26) := by kernel_rfl
@[go_sem] theorem fieldT_29_1 : fieldT Tryz.prog 29 1 = some (3, 27) := by kernel_rfl
@[go_sem] theorem placesT_29 : placesT Tryz.prog 29 = some [(0, 3), (3, 1)] := by kernel_rfl
@[go_sem] theorem sizeT_30 : sizeT Tryz.prog 30 = some 1 := by kernel_rfl
@[go_sem] theorem aggT_30 : aggT Tryz.prog 30 = some false := by kernel_rfl
@[go_sem] theorem bytesT_30 : bytesT Tryz.prog 30 = some 24 := by kernel_rfl
@[go_sem] theorem zeroT_30 : zeroT Tryz.prog 30 = some [AV.nils] := by kernel_rfl
@[go_sem] theorem elemT_30 : elemT Tryz.prog 30 = some 66 := by kernel_rfl
@[go_sem] theorem isBytesT_30 : isBytesT Tryz.prog 30 = false := by kernel_rfl
@[go_sem] theorem sizeT_35 : sizeT Tryz.prog 35 = some 1 := by kernel_rfl
@[go_sem] theorem aggT_35 : aggT Tryz.prog 35 = some false := by kernel_rfl
@[go_sem] theorem bytesT_35 : bytesT Tryz.prog 35 = some 24 := by kernel_rfl
@[go_sem] theorem zeroT_35 : zeroT Tryz.prog 35 = some [AV.nils] := by kernel_rfl
@[go_sem] theorem elemT_35 : elemT Tryz.prog 35 = some 91 := by kernel_rfl
@[go_sem] theorem isBytesT_35 : isBytesT Tryz.prog 35 = false := by kernel_rfl
@[go_sem] theorem sizeT_37 : sizeT Tryz.prog 37 = some 2 := by kernel_rfl
@[go_sem] theorem aggT_37 : aggT Tryz.prog 37 = some true := by kernel_rfl
@[go_sem] theorem bytesT_37 : bytesT Tryz.prog 37 = some 48 := by kernel_rfl
@[go_sem] theorem zeroT_37 : zeroT Tryz.prog 37 = some [AV.nils, AV.nils] := by kernel_rfl
@[go_sem] theorem fieldT_37_0 : fieldT Tryz.prog 37 0 = some (0, 35) := by kernel_rfl
@[go_sem] theorem fieldT_37_1 : fieldT Tryz.prog 37 1 = some (1, 35) := by kernel_rfl
@[go_sem] theorem placesT_37 : placesT Tryz.prog 37 = some [(0, 1), (1, 1)] := by kernel_rfl
@[go_sem] theorem sizeT_38 : sizeT Tryz.prog 38 = some 1 := by kernel_rfl
@[go_sem] theorem aggT_38 : aggT Tryz.prog 38 = some false := by kernel_rfl
@[go_sem] theorem bytesT_38 : bytesT Tryz.prog 38 = some 24 := by kernel_rfl
@[go_sem] theorem zeroT_38 : zeroT Tryz.prog 38 = some [AV.nils] := by kernel_rfl
@[go_sem] theorem elemT_38 : elemT Tryz.prog 38 = some 39 := by kernel_rfl
@[go_sem] theorem isBytesT_38 : isBytesT Tryz.prog 38 = false := by kernel_rfl
@[go_sem] theorem sizeT_39 : sizeT Tryz.prog 39 = some 1 := by kernel_rfl
@[go_sem] theorem aggT_39 : aggT Tryz.prog 39 = some false := by kernel_rfl
@[go_sem] theorem bytesT_39 : bytesT Tryz.prog 39 = some 8 := by kernel_rfl
@[go_sem] theorem zeroT_39 : zeroT Tryz.prog 39 = some [AV.int .i64 (0)] := by kernel_rfl
@[go_sem] theorem intT_39 : intT Tryz.prog 39 = some .i64 := by kernel_rfl
@[go_sem] theorem sizeT_45 : sizeT Tryz.prog 45 = some 1 := by kernel_rfl
@[go_sem] theorem aggT_45 : aggT Tryz.prog 45 = some false := by kernel_rfl
@[go_sem] theorem bytesT_45 : bytesT Tryz.prog 45 = some 24 := by kernel_rfl
@[go_sem] theorem zeroT_45 : zeroT Tryz.prog 45 = some [AV.nils] := by kernel_rfl
@[go_sem] theorem elemT_45 : elemT Tryz.prog 45 = some 53 := by kernel_rfl
@[go_sem] theorem isBytesT_45 : isBytesT Tryz.prog 45 = false := by kernel_rfl
@[go_sem] theorem sizeT_53 : sizeT Tryz.prog 53 = some 4 := by kernel_rfl
@[go_sem] theorem aggT_53 : aggT Tryz.prog 53 = some true := by kernel_rfl
@[go_sem] theorem bytesT_53 : bytesT Tryz.prog 53 = some 32 := by kernel_rfl
@[go_sem] theorem zeroT_53 : zeroT Tryz.prog 53 = some [AV.int .i64 (0), AV.int .i64 (0), AV.int .i64 (0), AV.int .i64 (0)] := by kernel_rfl
@[go_sem] theorem fieldT_53_0 : fieldT Tryz.prog 53 0 = some (0, 3) := by kernel_rfl
@[go_sem] theorem fieldT_53_1 : fieldT Tryz.prog 53 1 = some (1, 3) := by kernel_rfl
@[go_sem] theorem fieldT_53_2 : fieldT Tryz.prog 53 2 = some (2, 3) := by kernel_rfl
@[go_sem] theorem fieldT_53_3 : fieldT Tryz.prog 53 3 = some (3, 3) := by kernel_rfl
@[go_sem] theorem eqK_53 : eqK Tryz.prog 53 = some [.int, .int, .int, .int] := by kernel_rfl
@[go_sem] theorem placesT_53 : placesT Tryz.prog 53 = some [(0, 1), (1, 1), (2, 1), (3, 1)] := by kernel_rfl
@[go_sem] theorem sizeT_55 : sizeT Tryz.prog 55 = some 1 := by kernel_rfl
@[go_sem] theorem aggT_55 : aggT Tryz.prog 55 = some false := by kernel_rfl
@[go_sem] theorem bytesT_55 : bytesT Tryz.prog 55 = some 24 := by kernel_rfl
@[go_sem] theorem zeroT_55 : zeroT Tryz.prog 55 = some [AV.nils] := by kernel_rfl
@[go_sem] theorem elemT_55 : elemT Tryz.prog 55 = some 63 := by kernel_rfl
@[go_sem] theorem isBytesT_55 : isBytesT Tryz.prog 55 = false := by kernel_rfl
@[go_sem] theorem sizeT_63 : sizeT Tryz.prog 63 = some 8 := by kernel_rfl
@[go_sem] theorem aggT_63 : aggT Tryz.prog 63 = some true := by kernel_rfl
@[go_sem] theorem bytesT_63 : bytesT Tryz.prog 63 = some 64 := by kernel_rfl
@[go_sem] theorem zeroT_63 : zeroT Tryz.prog 63 = some [AV.int .i64 (0), AV.int .i64 (0), AV.int .i64 (0), AV.int .i64 (0), AV.int .i64 (0), AV.int .i64 (0), AV.int .i64 (0), AV.int .i64 (0)] := by kernel_rfl
@[go_sem] theorem fieldT_63_0 : fieldT Tryz.prog 63 0 = some (0, 53) := by kernel_rfl
@[go_sem] theorem fieldT_63_1 : fieldT Tryz.prog 63 1 = some (4, 3) := by kernel_rfl
@[go_sem] theorem fieldT_63_2 : fieldT Tryz.prog 63 2 = some (5, 3) := by kernel_rfl
@[go_sem] theorem fieldT_63_3 : fieldT Tryz.prog 63 3 = some (6, 3) := by kernel_rfl
@[go_sem] theorem fieldT_63_4 : fieldT Tryz.prog 63 4 = some (7, 3) := by kernel_rfl
@[go_sem] theorem eqK_63 : eqK Tryz.prog 63 = some [.int, .int, .int, .int, .int, .int, .int, .int] := by kernel_rfl
@[go_sem] theorem placesT_63 : placesT Tryz.prog 63 = some [(0, 4), (4, 1), (5, 1), (6, 1), (7, 1)] := by kernel_rfl
@[go_sem] theorem sizeT_66 : sizeT Tryz.prog 66 = some 8 := by kernel_rfl
@[go_sem] theorem aggT_66 : aggT Tryz.prog 66 = some true := by kernel_rfl
@[go_sem] theorem bytesT_66 : bytesT Tryz.prog 66 = some 72 := by kernel_rfl
@[go_sem] theorem zeroT_66 : zeroT Tryz.prog 66 = some [AV.int .i64 (0), AV.int .i64 (0), AV.int .i64 (0), AV.int .i64 (0), AV.int .i64 (0), AV.int .i64 (0), AV.int .i64 (0), AV.str ⟨#[]⟩] := by kernel_rfl
@[go_sem] theorem fieldT_66_0 : fieldT Tryz.prog 66 0 = some (0, 3) := by kernel_rfl
@[go_sem] theorem fieldT_66_1 : fieldT Tryz.prog 66 1 = some (1, 3) := by kernel_rfl
@[go_sem] theorem fieldT_66_2 : fieldT Tryz.prog 66 2 = some (2, 3) := by kernel_rfl
@[go_sem] theorem fieldT_66_3 : fieldT Tryz.prog 66 3 = some (3, 3) := by kernel_rfl
@[go_sem] theorem fieldT_66_4 : fieldT Tryz.prog 66 4 = some (4, 3) := by kernel_rfl
@[go_sem] theorem fieldT_66_5 : fieldT Tryz.prog 66 5 = some (5, 3) := by kernel_rfl
@[go_sem] theorem fieldT_66_6 : fieldT Tryz.prog 66 6 = some (6, 3) := by kernel_rfl
@[go_sem] theorem fieldT_66_7 : fieldT Tryz.prog 66 7 = some (7, 9) := by kernel_rfl
@[go_sem] theorem eqK_66 : eqK Tryz.prog 66 = some [.int, .int, .int, .int, .int, .int, .int, .str] := by kernel_rfl
@[go_sem] theorem placesT_66 : placesT Tryz.prog 66 = some [(0, 1), (1, 1), (2, 1), (3, 1), (4, 1), (5, 1), (6, 1), (7, 1)] := by kernel_rfl
@[go_sem] theorem sizeT_73 : sizeT Tryz.prog 73 = some 1 := by kernel_rfl
@[go_sem] theorem aggT_73 : aggT Tryz.prog 73 = some false := by kernel_rfl
@[go_sem] theorem bytesT_73 : bytesT Tryz.prog 73 = some 24 := by kernel_rfl
@[go_sem] theorem zeroT_73 : zeroT Tryz.prog 73 = some [AV.nils] := by kernel_rfl
@[go_sem] theorem elemT_73 : elemT Tryz.prog 73 = some 3 := by kernel_rfl
@[go_sem] theorem isBytesT_73 : isBytesT Tryz.prog 73 = false := by kernel_rfl
@[go_sem] theorem sizeT_89 : sizeT Tryz.prog 89 = some 1 := by kernel_rfl
@[go_sem] theorem aggT_89 : aggT Tryz.prog 89 = some false := by kernel_rfl
@[go_sem] theorem bytesT_89 : bytesT Tryz.prog 89 = some 24 := by kernel_rfl
@[go_sem] theorem zeroT_89 : zeroT Tryz.prog 89 = some [AV.nils] := by kernel_rfl
@[go_sem] theorem elemT_89 : elemT Tryz.prog 89 = some 4 := by kernel_rfl
@[go_sem] theorem isBytesT_89 : isBytesT Tryz.prog 89 = false := by kernel_rfl
@[go_sem] theorem sizeT_91 : sizeT Tryz.prog 91 = some 2 := by kernel_rfl
@[go_sem] theorem aggT_91 : aggT Tryz.prog 91 = some true := by kernel_rfl
@[go_sem] theorem bytesT_91 : bytesT Tryz.prog 91 = some 40 := by kernel_rfl
@[go_sem] theorem zeroT_91 : zeroT Tryz.prog 91 = some [AV.str ⟨#[]⟩, AV.nils] := by kernel_rfl
@[go_sem] theorem fieldT_91_0 : fieldT Tryz.prog 91 0 = some (0, 9) := by kernel_rfl
@[go_sem] theorem fieldT_91_1 : fieldT Tryz.prog 91 1 = some (1, 89) := by kernel_rfl
@[go_sem] theorem placesT_91 : placesT Tryz.prog 91 = some [(0, 1), (1, 1)] := by kernel_rfl
@[go_sem] theorem sizeT_92 : sizeT Tryz.prog 92 = some 1 := by kernel_rfl
@[go_sem] theorem aggT_92 : aggT Tryz.prog 92 = some false := by kernel_rfl
@[go_sem] theorem bytesT_92 : bytesT Tryz.prog 92 = some 24 := by kernel_rfl
@[go_sem] theorem zeroT_92 : zeroT Tryz.prog 92 = some [AV.nils] := by kernel_rfl
@[go_sem] theorem elemT_92 : elemT Tryz.prog 92 = some 97 := by kernel_rfl
@[go_sem] theorem isBytesT_92 : isBytesT Tryz.prog 92 = false := by kernel_rfl
@[go_sem] theorem sizeT_95 : sizeT Tryz.prog 95 = some 2 := by kernel_rfl
@[go_sem] theorem aggT_95 : aggT Tryz.prog 95 = some true := by kernel_rfl
@[go_sem] theorem bytesT_95 : bytesT Tryz.prog 95 = some 16 := by kernel_rfl
@[go_sem] theorem zeroT_95 : zeroT Tryz.prog 95 = some [AV.int .i64 (0), AV.int .i64 (0)] := by kernel_rfl
@[go_sem] theorem fieldT_95_0 : fieldT Tryz.prog 95 0 = some (0, 3) := by kernel_rfl
@[go_sem] theorem fieldT_95_1 : fieldT Tryz.prog 95 1 = some (1, 3) := by kernel_rfl
@[go_sem] theorem eqK_95 : eqK Tryz.prog 95 = some [.int, .int] := by kernel_rfl
@[go_sem] theorem placesT_95 : placesT Tryz.prog 95 = some [(0, 1), (1, 1)] := by kernel_rfl
@[go_sem] theorem sizeT_97 : sizeT Tryz.prog 97 = some 4 := by kernel_rfl
@[go_sem] theorem aggT_97 : aggT Tryz.prog 97 = some true := by kernel_rfl
@[go_sem] theorem bytesT_97 : bytesT Tryz.prog 97 = some 32 := by kernel_rfl
@[go_sem] theorem zeroT_97 : zeroT Tryz.prog 97 = some [AV.int .i64 (0), AV.int .i64 (0), AV.int .i64 (0), AV.int .i64 (0)] := by kernel_rfl
@[go_sem] theorem fieldT_97_0 : fieldT Tryz.prog 97 0 = some (0, 3) := by kernel_rfl
@[go_sem] theorem fieldT_97_1 : fieldT Tryz.prog 97 1 = some (1, 95) := by kernel_rfl
@[go_sem] theorem fieldT_97_2 : fieldT Tryz.prog 97 2 = some (3, 3) := by kernel_rfl
@[go_sem] theorem eqK_97 : eqK Tryz.prog 97 = some [.int, .int, .int, .int] := by kernel_rfl
@[go_sem] theorem placesT_97 : placesT Tryz.prog 97 = some [(0, 1), (1, 2), (3, 1)] := by kernel_rfl
@[go_sem] theorem sizeT_111 : sizeT Tryz.prog 111 = some 3 := by kernel_rfl
@[go_sem] theorem aggT_111 : aggT Tryz.prog 111 = some true := by kernel_rfl
@[go_sem] theorem bytesT_111 : bytesT Tryz.prog 111 = some 32 := by kernel_rfl
@[go_sem] theorem zeroT_111 : zeroT Tryz.prog 111 = some [AV.int .i64 (0), AV.int .i64 (0), AV.str ⟨#[]⟩] := by kernel_rfl
@[go_sem] theorem fieldT_111_0 : fieldT Tryz.prog 111 0 = some (0, 3) := by kernel_rfl
@[go_sem] theorem fieldT_111_1 : fieldT Tryz.prog 111 1 = some (1, 3) := by kernel_rfl
@[go_sem] theorem fieldT_111_2 : fieldT Tryz.prog 111 2 = some (2, 9) := by kernel_rfl
@[go_sem] theorem eqK_111 : eqK Tryz.prog 111 = some [.int, .int, .str] := by kernel_rfl
@[go_sem] theorem placesT_111 : placesT Tryz.prog 111 = some [(0, 1), (1, 1), (2, 1)] := by kernel_rfl
@[go_sem] theorem sizeT_116 : sizeT Tryz.prog 116 = some 3 := by kernel_rfl
@[go_sem] theorem aggT_116 : aggT Tryz.prog 116 = some true := by kernel_rfl
@[go_sem] theorem bytesT_116 : bytesT Tryz.prog 116 = some 24 := by kernel_rfl
@[go_sem] theorem zeroT_116 : zeroT Tryz.prog 116 = some [AV.int .i64 (0), AV.int .i64 (0), AV.int .i64 (0)] := by kernel_rfl
@[go_sem] theorem fieldT_116_0 : fieldT Tryz.prog 116 0 = some (0, 3) := by kernel_rfl
@[go_sem] theorem fieldT_116_1 : fieldT Tryz.prog 116 1 = some (1, 3) := by kernel_rfl
@[go_sem] theorem fieldT_116_2 : fieldT Tryz.prog 116 2 = some (2, 3) := by kernel_rfl
@[go_sem] theorem eqK_116 : eqK Tryz.prog 116 = some [.int, .int, .int] := by kernel_rfl
@[go_sem] theorem placesT_116 : placesT Tryz.prog 116 = some [(0, 1), (1, 1), (2, 1)] := by kernel_rfl
@[go_sem] theorem sizeT_120 : sizeT Tryz.prog 120 = some 3 := by kernel_rfl
@[go_sem] theorem aggT_120 : aggT Tryz.prog 120 = some true := by kernel_rfl
@[go_sem] theorem bytesT_120 : bytesT Tryz.prog 120 = some 48 := by kernel_rfl
@[go_sem] theorem zeroT_120 : zeroT Tryz.prog 120 = some [AV.str ⟨#[]⟩, AV.nils, AV.int .i64 (0)] := by kernel_rfl
@[go_sem] theorem fieldT_120_0 : fieldT Tryz.prog 120 0 = some (0, 9) := by kernel_rfl
@[go_sem] theorem fieldT_120_1 : fieldT Tryz.prog 120 1 = some (1, 27) := by kernel_rfl
@[go_sem] theorem fieldT_120_2 : fieldT Tryz.prog 120 2 = some (2, 3) := by kernel_rfl
@[go_sem] theorem placesT_120 : placesT Tryz.prog 120 = some [(0, 1), (1, 1), (2, 1)] := by kernel_rfl
@[go_sem] theorem sizeT_122 : sizeT Tryz.prog 122 = some 3 := by kernel_rfl
@[go_sem] theorem aggT_122 : aggT Tryz.prog 122 = some true := by kernel_rfl
@[go_sem] theorem bytesT_122 : bytesT Tryz.prog 122 = some 40 := by kernel_rfl
@[go_sem] theorem zeroT_122 : zeroT Tryz.prog 122 = some [AV.str ⟨#[]⟩, AV.str ⟨#[]⟩, AV.int .i64 (0)] := by kernel_rfl
@[go_sem] theorem fieldT_122_0 : fieldT Tryz.prog 122 0 = some (0, 9) := by kernel_rfl
@[go_sem] theorem fieldT_122_1 : fieldT Tryz.prog 122 1 = some (1, 9) := by kernel_rfl
@[go_sem] theorem fieldT_122_2 : fieldT Tryz.prog 122 2 = some (2, 3) := by kernel_rfl
@[go_sem] theorem eqK_122 : eqK Tryz.prog 122 = some [.str, .str, .int] := by kernel_rfl
@[go_sem] theorem placesT_122 : placesT Tryz.prog 122 = some [(0, 1), (1, 1), (2, 1)] := by kernel_rfl
@[go_sem] theorem sizeT_124 : sizeT Tryz.prog 124 = some 2 := by kernel_rfl
@[go_sem] theorem aggT_124 : aggT Tryz.prog 124 = some true := by kernel_rfl
@[go_sem] theorem bytesT_124 : bytesT Tryz.prog 124 = some 24 := by kernel_rfl
@[go_sem] theorem zeroT_124 : zeroT Tryz.prog 124 = some [AV.str ⟨#[]⟩, AV.int .i64 (0)] := by kernel_rfl
@[go_sem] theorem fieldT_124_0 : fieldT Tryz.prog 124 0 = some (0, 9) := by kernel_rfl
@[go_sem] theorem fieldT_124_1 : fieldT Tryz.prog 124 1 = some (1, 3) := by kernel_rfl
@[go_sem] theorem eqK_124 : eqK Tryz.prog 124 = some [.str, .int] := by kernel_rfl
@[go_sem] theorem placesT_124 : placesT Tryz.prog 124 = some [(0, 1), (1, 1)] := by kernel_rfl
@[go_sem] theorem sizeT_125 : sizeT Tryz.prog 125 = some 1 := by kernel_rfl
@[go_sem] theorem aggT_125 : aggT Tryz.prog 125 = some false := by kernel_rfl
@[go_sem] theorem bytesT_125 : bytesT Tryz.prog 125 = some 24 := by kernel_rfl
@[go_sem] theorem zeroT_125 : zeroT Tryz.prog 125 = some [AV.nils] := by kernel_rfl
@[go_sem] theorem elemT_125 : elemT Tryz.prog 125 = some 124 := by kernel_rfl
@[go_sem] theorem isBytesT_125 : isBytesT Tryz.prog 125 = false := by kernel_rfl
@[go_sem] theorem sizeT_127 : sizeT Tryz.prog 127 = some 8 := by kernel_rfl
@[go_sem] theorem aggT_127 : aggT Tryz.prog 127 = some true := by kernel_rfl
@[go_sem] theorem bytesT_127 : bytesT Tryz.prog 127 = some 112 := by kernel_rfl
@[go_sem] theorem zeroT_127 : zeroT Tryz.prog 127 = some [AV.str ⟨#[]⟩, AV.str ⟨#[]⟩, AV.int .i64 (0), AV.str ⟨#[]⟩, AV.nils, AV.str ⟨#[]⟩, AV.int .i64 (0), AV.bool false] := by kernel_rfl
@[go_sem] theorem fieldT_127_0 : fieldT Tryz.prog 127 0 = some (0, 122) := by kernel_rfl
@[go_sem] theorem fieldT_127_1 : fieldT Tryz.prog 127 1 = some (3, 9) := by kernel_rfl
@[go_sem] theorem fieldT_127_2 : fieldT Tryz.prog 127 2 = some (4, 125) := by kernel_rfl
@[go_sem] theorem fieldT_127_3 : fieldT Tryz.prog 127 3 = some (5, 9) := by kernel_rfl
@[go_sem] theorem fieldT_127_4 : fieldT Tryz.prog 127 4 = some (6, 3) := by kernel_rfl
@[go_sem] theorem fieldT_127_5 : fieldT Tryz.prog 127 5 = some (7, 4) := by kernel_rfl
@[go_sem] theorem placesT_127 : placesT Tryz.prog 127 = some [(0, 3), (3, 1), (4, 1), (5, 1), (6, 1), (7, 1)] := by kernel_rfl
@[go_sem] theorem sizeT_130 : sizeT Tryz.prog 130 = some 4 := by kernel_rfl
@[go_sem] theorem aggT_130 : aggT Tryz.prog 130 = some true := by kernel_rfl
@[go_sem] theorem bytesT_130 : bytesT Tryz.prog 130 = some 64 := by kernel_rfl
@[go_sem] theorem zeroT_130 : zeroT Tryz.prog 130 = some [AV.str ⟨#[]⟩, AV.str ⟨#[]⟩, AV.nils, AV.int .i64 (0)] := by kernel_rfl
@[go_sem] theorem fieldT_130_0 : fieldT Tryz.prog 130 0 = some (0, 9) := by kernel_rfl
@[go_sem] theorem fieldT_130_1 : fieldT Tryz.prog 130 1 = some (1, 9) := by kernel_rfl
@[go_sem] theorem fieldT_130_2 : fieldT Tryz.prog 130 2 = some (2, 125) := by kernel_rfl
@[go_sem] theorem fieldT_130_3 : fieldT Tryz.prog 130 3 = some (3, 3) := by kernel_rfl
@[go_sem] theorem placesT_130 : placesT Tryz.prog 130 = some [(0, 1), (1, 1), (2, 1), (3, 1)] := by kernel_rfl
@[go_sem] theorem sizeT_138 : sizeT Tryz.prog 138 = some 1 := by kernel_rfl
@[go_sem] theorem aggT_138 : aggT Tryz.prog 138 = some false := by kernel_rfl
@[go_sem] theorem bytesT_138 : bytesT Tryz.prog 138 = some 8 := by kernel_rfl
@[go_sem] theorem zeroT_138 : zeroT Tryz.prog 138 = some [AV.any] := by kernel_rfl
@[go_sem] theorem sizeT_153 : sizeT Tryz.prog 153 = some 1 := by kernel_rfl
@[go_sem] theorem aggT_153 : aggT Tryz.prog 153 = some false := by kernel_rfl
@[go_sem] theorem bytesT_153 : bytesT Tryz.prog 153 = some 8 := by kernel_rfl
@[go_sem] theorem zeroT_153 : zeroT Tryz.prog 153 = some [AV.any] := by kernel_rfl
@[go_sem] theorem sizeT_154 : sizeT Tryz.prog 154 = some 1 := by kernel_rfl
@[go_sem] theorem aggT_154 : aggT Tryz.prog 154 = some false := by kernel_rfl
@[go_sem] theorem bytesT_154 : bytesT Tryz.prog 154 = some 8 := by kernel_rfl
@[go_sem] theorem zeroT_154 : zeroT Tryz.prog 154 = some [AV.any] := by kernel_rfl
@[go_sem] theorem sizeT_156 : sizeT Tryz.prog 156 = some 1 := by kernel_rfl
@[go_sem] theorem aggT_156 : aggT Tryz.prog 156 = some false := by kernel_rfl
@[go_sem] theorem bytesT_156 : bytesT Tryz.prog 156 = some 8 := by kernel_rfl
@[go_sem] theorem zeroT_156 : zeroT Tryz.prog 156 = some [AV.any] := by kernel_rfl
@[go_sem] theorem sizeT_158 : sizeT Tryz.prog 158 = some 1 := by kernel_rfl
@[go_sem] theorem aggT_158 : aggT Tryz.prog 158 = some false := by kernel_rfl
@[go_sem] theorem bytesT_158 : bytesT Tryz.prog 158 = some 8 := by kernel_rfl
@[go_sem] theorem zeroT_158 : zeroT Tryz.prog 158 = some [AV.any] := by kernel_rfl
@[go_sem] theorem sizeT_160 : sizeT Tryz.prog 160 = some 5 := by kernel_rfl
@[go_sem] theorem aggT_160 : aggT Tryz.prog 160 = some true := by kernel_rfl
@[go_sem] theorem bytesT_160 : bytesT Tryz.prog 160 = some 120 := by kernel_rfl
@[go_sem] theorem zeroT_160 : zeroT Tryz.prog 160 = some [AV.nils, AV.nils, AV.nils, AV.nils, AV.nils] := by kernel_rfl
@[go_sem] theorem fieldT_160_0 : fieldT Tryz.prog 160 0 = some (0, 29) := by kernel_rfl
@[go_sem] theorem fieldT_160_1 : fieldT Tryz.prog 160 1 = some (4, 55) := by kernel_rfl
@[go_sem] theorem placesT_160 : placesT Tryz.prog 160 = some [(0, 4), (4, 1)] := by kernel_rfl
@[go_sem] theorem sizeT_161 : sizeT Tryz.prog 161 = some 1 := by kernel_rfl
@[go_sem] theorem aggT_161 : aggT Tryz.prog 161 = some false := by kernel_rfl
@[go_sem] theorem bytesT_161 : bytesT Tryz.prog 161 = some 8 := by kernel_rfl
@[go_sem] theorem zeroT_161 : zeroT Tryz.prog 161 = some [AV.any] := by kernel_rfl
@[go_sem] theorem sizeT_167 : sizeT Tryz.prog 167 = some 1 := by kernel_rfl
@[go_sem] theorem aggT_167 : aggT Tryz.prog 167 = some false := by kernel_rfl
@[go_sem] theorem bytesT_167 : bytesT Tryz.prog 167 = some 8 := by kernel_rfl
@[go_sem] theorem zeroT_167 : zeroT Tryz.prog 167 = some [AV.any] := by kernel_rfl
@[go_sem] theorem sizeT_175 : sizeT Tryz.prog 175 = some 1 := by kernel_rfl
@[go_sem] theorem aggT_175 : aggT Tryz.prog 175 = some false := by kernel_rfl
@[go_sem] theorem bytesT_175 : bytesT Tryz.prog 175 = some 8 := by kernel_rfl
@[go_sem] theorem zeroT_175 : zeroT Tryz.prog 175 = some [AV.any] := by kernel_rfl
@[go_sem] theorem sizeT_177 : sizeT Tryz.prog 177 = some 1 := by kernel_rfl
@[go_sem] theorem aggT_177 : aggT Tryz.prog 177 = some false := by kernel_rfl
@[go_sem] theorem bytesT_177 : bytesT Tryz.prog 177 = some 8 := by kernel_rfl
@[go_sem] theorem zeroT_177 : zeroT Tryz.prog 177 = some [AV.any] := by kernel_rfl
@[go_sem] theorem sizeT_180 : sizeT Tryz.prog 180 = some 6 := by kernel_rfl
@[go_sem] theorem aggT_180 : aggT Tryz.prog 180 = some true := by kernel_rfl
@[go_sem] theorem bytesT_180 : bytesT Tryz.prog 180 = some 6 := by kernel_rfl
@[go_sem] theorem zeroT_180 : zeroT Tryz.prog 180 = some [AV.bool false, AV.bool false, AV.bool false, AV.bool false, AV.bool false, AV.bool false] := by kernel_rfl
@[go_sem] theorem fieldT_180_0 : fieldT Tryz.prog 180 0 = some (0, 4) := by kernel_rfl
@[go_sem] theorem fieldT_180_1 : fieldT Tryz.prog 180 1 = some (1, 4) := by kernel_rfl
@[go_sem] theorem fieldT_180_2 : fieldT Tryz.prog 180 2 = some (2, 4) := by kernel_rfl
@[go_sem] theorem fieldT_180_3 : fieldT Tryz.prog 180 3 = some (3, 4) := by kernel_rfl
@[go_sem] theorem fieldT_180_4 : fieldT Tryz.prog 180 4 = some (4, 4) := by kernel_rfl
@[go_sem] theorem fieldT_180_5 : fieldT Tryz.prog 180 5 = some (5, 4) := by kernel_rfl
@[go_sem] theorem eqK_180 : eqK Tryz.prog 180 = some [.bool, .bool, .bool, .bool, .bool, .bool] := by kernel_rfl
@[go_sem] theorem placesT_180 : placesT Tryz.prog 180 = some [(0, 1), (1, 1), (2, 1), (3, 1), (4, 1), (5, 1)] := by kernel_rfl
@[go_sem] theorem sizeT_181 : sizeT Tryz.prog 181 = some 54 := by kernel_rfl
@[go_sem] theorem elemT_181 : elemT Tryz.prog 181 = none := by kernel_rfl
@[go_sem] theorem arrT_181 : arrT Tryz.prog 181 = some (9, 180) := by kernel_rfl
@[go_sem] theorem sizeT_198 : sizeT Tryz.prog 198 = some 1 := by kernel_rfl
@[go_sem] theorem aggT_198 : aggT Tryz.prog 198 = some false := by kernel_rfl
@[go_sem] theorem bytesT_198 : bytesT Tryz.prog 198 = some 8 := by kernel_rfl
@[go_sem] theorem zeroT_198 : zeroT Tryz.prog 198 = some [AV.any] := by kernel_rfl
@[go_sem] theorem sizeT_211 : sizeT Tryz.prog 211 = some 1 := by kernel_rfl
@[go_sem] theorem aggT_211 : aggT Tryz.prog 211 = some false := by kernel_rfl
@[go_sem] theorem bytesT_211 : bytesT Tryz.prog 211 = some 24 := by kernel_rfl
@[go_sem] theorem zeroT_211 : zeroT Tryz.prog 211 = some [AV.nils] := by kernel_rfl
@[go_sem] theorem elemT_211 : elemT Tryz.prog 211 = some 175 := by kernel_rfl
@[go_sem] theorem isBytesT_211 : isBytesT Tryz.prog 211 = false := by kernel_rfl
@[go_sem] theorem sizeT_219 : sizeT Tryz.prog 219 = some 1 := by kernel_rfl
@[go_sem] theorem aggT_219 : aggT Tryz.prog 219 = some false := by kernel_rfl
@[go_sem] theorem bytesT_219 : bytesT Tryz.prog 219 = some 24 := by kernel_rfl
@[go_sem] theorem zeroT_219 : zeroT Tryz.prog 219 = some [AV.nils] := by kernel_rfl
@[go_sem] theorem elemT_219 : elemT Tryz.prog 219 = some 5 := by kernel_rfl
@[go_sem] theorem isBytesT_219 : isBytesT Tryz.prog 219 = true := by kernel_rfl
@[go_sem] theorem sizeT_223 : sizeT Tryz.prog 223 = some 1 := by kernel_rfl
@[go_sem] theorem aggT_223 : aggT Tryz.prog 223 = some false := by kernel_rfl
@[go_sem] theorem bytesT_223 : bytesT Tryz.prog 223 = some 8 := by kernel_rfl
@[go_sem] theorem zeroT_223 : zeroT Tryz.prog 223 = some [AV.any] := by kernel_rfl
@[go_sem] theorem sizeT_228 : sizeT Tryz.prog 228 = some 1 := by kernel_rfl
@[go_sem] theorem aggT_228 : aggT Tryz.prog 228 = some false := by kernel_rfl
@[go_sem] theorem bytesT_228 : bytesT Tryz.prog 228 = some 8 := by kernel_rfl
@[go_sem] theorem zeroT_228 : zeroT Tryz.prog 228 = some [AV.int .u64 (0)] := by kernel_rfl
@[go_sem] theorem intT_228 : intT Tryz.prog 228 = some .u64 := by kernel_rfl
@[go_sem] theorem sizeT_252 : sizeT Tryz.prog 252 = some 1 := by kernel_rfl
@[go_sem] theorem aggT_252 : aggT Tryz.prog 252 = some false := by kernel_rfl
@[go_sem] theorem bytesT_252 : bytesT Tryz.prog 252 = some 24 := by kernel_rfl
@[go_sem] theorem zeroT_252 : zeroT Tryz.prog 252 = some [AV.nils] := by kernel_rfl
@[go_sem] theorem elemT_252 : elemT Tryz.prog 252 = some 219 := by kernel_rfl
@[go_sem] theorem isBytesT_252 : isBytesT Tryz.prog 252 = false := by kernel_rfl
@[go_sem] theorem sizeT_269 : sizeT Tryz.prog 269 = some 1 := by kernel_rfl
@[go_sem] theorem aggT_269 : aggT Tryz.prog 269 = some false := by kernel_rfl
@[go_sem] theorem bytesT_269 : bytesT Tryz.prog 269 = some 8 := by kernel_rfl
@[go_sem] theorem zeroT_269 : zeroT Tryz.prog 269 = some [AV.any] := by kernel_rfl
@[go_sem] theorem sizeT_281 : sizeT Tryz.prog 281 = some 1 := by kernel_rfl
@[go_sem] theorem aggT_281 : aggT Tryz.prog 281 = some false := by kernel_rfl
@[go_sem] theorem bytesT_281 : bytesT Tryz.prog 281 = some 24 := by kernel_rfl
@[go_sem] theorem zeroT_281 : zeroT Tryz.prog 281 = some [AV.nils] := by kernel_rfl
@[go_sem] theorem elemT_281 : elemT Tryz.prog 281 = some 292 := by kernel_rfl
@[go_sem] theorem isBytesT_281 : isBytesT Tryz.prog 281 = false := by kernel_rfl
@[go_sem] theorem sizeT_288 : sizeT Tryz.prog 288 = some 1 := by kernel_rfl
@[go_sem] theorem aggT_288 : aggT Tryz.prog 288 = some false := by kernel_rfl
@[go_sem] theorem bytesT_288 : bytesT Tryz.prog 288 = some 8 := by kernel_rfl
@[go_sem] theorem zeroT_288 : zeroT Tryz.prog 288 = some [AV.any] := by kernel_rfl
@[go_sem] theorem sizeT_292 : sizeT Tryz.prog 292 = some 2 := by kernel_rfl
@[go_sem] theorem aggT_292 : aggT Tryz.prog 292 = some true := by kernel_rfl
@[go_sem] theorem bytesT_292 : bytesT Tryz.prog 292 = some 32 := by kernel_rfl
@[go_sem] theorem zeroT_292 : zeroT Tryz.prog 292 = some [AV.str ⟨#[]⟩, AV.str ⟨#[]⟩] := by kernel_rfl
@[go_sem] theorem fieldT_292_0 : fieldT Tryz.prog 292 0 = some (0, 9) := by kernel_rfl
@[go_sem] theorem fieldT_292_1 : fieldT Tryz.prog 292 1 = some (1, 9) := by kernel_rfl
@[go_sem] theorem eqK_292 : eqK Tryz.prog 292 = some [.str, .str] := by kernel_rfl
@[go_sem] theorem placesT_292 : placesT Tryz.prog 292 = some [(0, 1), (1, 1)] := by kernel_rfl
end Go.Proofs.YtbhgehhmjpipiaaGreatDoor.Ty
