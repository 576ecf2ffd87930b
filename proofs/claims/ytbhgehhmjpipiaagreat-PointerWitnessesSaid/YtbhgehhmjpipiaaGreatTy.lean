/- What the types of this seat are, for the abstract machine: printed by a program of this work, each row reckoned by the kernel. -/
import Derived.Test.YtbhgehhmjpipiaaGreatAb15
import Derived.Test.YtbhgehhmjpipiaaGreatProg
namespace Go.Proofs.YtbhgehhmjpipiaaGreat.Ty
open Go Go.Proofs Go.Proofs.YtbhgehhmjpipiaaGreat.Ab

@[go_sem] theorem sizeT_1 : sizeT Tryz.prog 1 = some 1 := by kernel_rfl
@[go_sem] theorem aggT_1 : aggT Tryz.prog 1 = some false := by kernel_rfl
@[go_sem] theorem bytesT_1 : bytesT Tryz.prog 1 = some 8 := by kernel_rfl
@[go_sem] theorem zeroT_1 : zeroT Tryz.prog 1 = some [AV.any] := by kernel_rfl
@[go_sem] theorem sizeT_2 : sizeT Tryz.prog 2 = some 1 := by kernel_rfl
@[go_sem] theorem aggT_2 : aggT Tryz.prog 2 = some false := by kernel_rfl
@[go_sem] theorem bytesT_2 : bytesT Tryz.prog 2 = some 8 := by kernel_rfl
@[go_sem] theorem zeroT_2 : zeroT Tryz.prog 2 = some [AV.int .i64 (0)] := by kernel_rfl
@[go_sem] theorem intT_2 : intT Tryz.prog 2 = some .i64 := by kernel_rfl
@[go_sem] theorem sizeT_3 : sizeT Tryz.prog 3 = some 1 := by kernel_rfl
@[go_sem] theorem aggT_3 : aggT Tryz.prog 3 = some false := by kernel_rfl
@[go_sem] theorem bytesT_3 : bytesT Tryz.prog 3 = some 8 := by kernel_rfl
@[go_sem] theorem zeroT_3 : zeroT Tryz.prog 3 = some [AV.int .i64 (0)] := by kernel_rfl
@[go_sem] theorem intT_3 : intT Tryz.prog 3 = some .i64 := by kernel_rfl
@[go_sem] theorem sizeT_4 : sizeT Tryz.prog 4 = some 1 := by kernel_rfl
@[go_sem] theorem aggT_4 : aggT Tryz.prog 4 = some false := by kernel_rfl
@[go_sem] theorem bytesT_4 : bytesT Tryz.prog 4 = some 1 := by kernel_rfl
@[go_sem] theorem zeroT_4 : zeroT Tryz.prog 4 = some [AV.bool false] := by kernel_rfl
@[go_sem] theorem isBoolT_4 : isBoolT Tryz.prog 4 = true := by kernel_rfl
@[go_sem] theorem sizeT_5 : sizeT Tryz.prog 5 = some 1 := by kernel_rfl
@[go_sem] theorem aggT_5 : aggT Tryz.prog 5 = some false := by kernel_rfl
@[go_sem] theorem bytesT_5 : bytesT Tryz.prog 5 = some 1 := by kernel_rfl
@[go_sem] theorem zeroT_5 : zeroT Tryz.prog 5 = some [AV.int .u8 (0)] := by kernel_rfl
@[go_sem] theorem intT_5 : intT Tryz.prog 5 = some .u8 := by kernel_rfl
@[go_sem] theorem sizeT_6 : sizeT Tryz.prog 6 = some 1 := by kernel_rfl
@[go_sem] theorem aggT_6 : aggT Tryz.prog 6 = some false := by kernel_rfl
@[go_sem] theorem bytesT_6 : bytesT Tryz.prog 6 = some 1 := by kernel_rfl
@[go_sem] theorem zeroT_6 : zeroT Tryz.prog 6 = some [AV.int .u8 (0)] := by kernel_rfl
@[go_sem] theorem intT_6 : intT Tryz.prog 6 = some .u8 := by kernel_rfl
@[go_sem] theorem sizeT_7 : sizeT Tryz.prog 7 = some 4 := by kernel_rfl
@[go_sem] theorem aggT_7 : aggT Tryz.prog 7 = some true := by kernel_rfl
@[go_sem] theorem bytesT_7 : bytesT Tryz.prog 7 = some 24 := by kernel_rfl
@[go_sem] theorem zeroT_7 : zeroT Tryz.prog 7 = some [AV.int .i64 (0), AV.int .i64 (0), AV.bool false, AV.int .u8 (0)] := by kernel_rfl
@[go_sem] theorem fieldT_7_0 : fieldT Tryz.prog 7 0 = some (0, 2) := by kernel_rfl
@[go_sem] theorem fieldT_7_1 : fieldT Tryz.prog 7 1 = some (1, 3) := by kernel_rfl
@[go_sem] theorem fieldT_7_2 : fieldT Tryz.prog 7 2 = some (2, 4) := by kernel_rfl
@[go_sem] theorem fieldT_7_3 : fieldT Tryz.prog 7 3 = some (3, 6) := by kernel_rfl
@[go_sem] theorem eqK_7 : eqK Tryz.prog 7 = some [.int, .int, .bool, .int] := by kernel_rfl
@[go_sem] theorem placesT_7 : placesT Tryz.prog 7 = some [(0, 1), (1, 1), (2, 1), (3, 1)] := by kernel_rfl
@[go_sem] theorem sizeT_9 : sizeT Tryz.prog 9 = some 1 := by kernel_rfl
@[go_sem] theorem aggT_9 : aggT Tryz.prog 9 = some false := by kernel_rfl
@[go_sem] theorem bytesT_9 : bytesT Tryz.prog 9 = some 16 := by kernel_rfl
@[go_sem] theorem zeroT_9 : zeroT Tryz.prog 9 = some [AV.str ⟨#[]⟩] := by kernel_rfl
@[go_sem] theorem isStrT_9 : isStrT Tryz.prog 9 = true := by kernel_rfl
@[go_sem] theorem isBytesT_9 : isBytesT Tryz.prog 9 = false := by kernel_rfl
@[go_sem] theorem sizeT_22 : sizeT Tryz.prog 22 = some 1 := by kernel_rfl
@[go_sem] theorem aggT_22 : aggT Tryz.prog 22 = some false := by kernel_rfl
@[go_sem] theorem bytesT_22 : bytesT Tryz.prog 22 = some 24 := by kernel_rfl
@[go_sem] theorem zeroT_22 : zeroT Tryz.prog 22 = some [AV.nils] := by kernel_rfl
@[go_sem] theorem elemT_22 : elemT Tryz.prog 22 = some 124 := by kernel_rfl
@[go_sem] theorem isBytesT_22 : isBytesT Tryz.prog 22 = false := by kernel_rfl
@[go_sem] theorem sizeT_23 : sizeT Tryz.prog 23 = some 1 := by kernel_rfl
@[go_sem] theorem aggT_23 : aggT Tryz.prog 23 = some false := by kernel_rfl
@[go_sem] theorem bytesT_23 : bytesT Tryz.prog 23 = some 24 := by kernel_rfl
@[go_sem] theorem zeroT_23 : zeroT Tryz.prog 23 = some [AV.nils] := by kernel_rfl
@[go_sem] theorem elemT_23 : elemT Tryz.prog 23 = some 139 := by kernel_rfl
@[go_sem] theorem isBytesT_23 : isBytesT Tryz.prog 23 = false := by kernel_rfl
@[go_sem] theorem sizeT_24 : sizeT Tryz.prog 24 = some 1 := by kernel_rfl
@[go_sem] theorem aggT_24 : aggT Tryz.prog 24 = some false := by kernel_rfl
@[go_sem] theorem bytesT_24 : bytesT Tryz.prog 24 = some 24 := by kernel_rfl
@[go_sem] theorem zeroT_24 : zeroT Tryz.prog 24 = some [AV.nils] := by kernel_rfl
@[go_sem] theorem elemT_24 : elemT Tryz.prog 24 = some 136 := by kernel_rfl
@[go_sem] theorem isBytesT_24 : isBytesT Tryz.prog 24 = false := by kernel_rfl
@[go_sem] theorem sizeT_26 : sizeT Tryz.prog 26 = some 3 := by kernel_rfl
@[go_sem] theorem aggT_26 : aggT Tryz.prog 26 = some true := by kernel_rfl
@[go_sem] theorem bytesT_26 : bytesT Tryz.prog 26 = some 72 := by kernel_rfl
@[go_sem] theorem zeroT_26 : zeroT Tryz.prog 26 = some [AV.nils, AV.nils, AV.nils] := by kernel_rfl
@[go_sem] theorem fieldT_26_0 : fieldT Tryz.prog 26 0 = some (0, 22) := by kernel_rfl
@[go_sem] theorem fieldT_26_1 : fieldT Tryz.prog 26 1 = some (1, 23) := by kernel_rfl
@[go_sem] theorem fieldT_26_2 : fieldT Tryz.prog 26 2 = some (2, 24) := by kernel_rfl
@[go_sem] theorem placesT_26 : placesT Tryz.prog 26 = some [(0, 1), (1, 1), (2, 1)] := by kernel_rfl
@[go_sem] theorem sizeT_27 : sizeT Tryz.prog 27 = some 1 := by kernel_rfl
@[go_sem] theorem aggT_27 : aggT Tryz.prog 27 = some false := by kernel_rfl
@[go_sem] theorem bytesT_27 : bytesT Tryz.prog 27 = some 24 := by kernel_rfl
@[go_sem] theorem zeroT_27 : zeroT Tryz.prog 27 = some [AV.nils] := by kernel_rfl
@[go_sem] theorem elemT_27 : elemT Tryz.prog 27 = some 9 := by kernel_rfl
@[go_sem] theorem isBytesT_27 : isBytesT Tryz.prog 27 = false := by kernel_rfl
@[go_sem] theorem sizeT_29 : sizeT Tryz.prog 29 = some 4 := by kernel_rfl
@[go_sem] theorem aggT_29 : aggT Tryz.prog 29 = some true := by kernel_rfl
@[go_sem] theorem bytesT_29 : bytesT Tryz.prog 29 = some 96 := by kernel_rfl
@[go_sem] theorem zeroT_29 : zeroT Tryz.prog 29 = some [AV.nils, AV.nils, AV.nils, AV.nils] := by kernel_rfl
@[go_sem] theorem fieldT_29_0 : fieldT Tryz.prog 29 0 = some (0, 26) := by kernel_rfl
@[go_sem] theorem fieldT_29_1 : fieldT Tryz.prog 29 1 = some (3, 27) := by kernel_rfl
@[go_sem] theorem placesT_29 : placesT Tryz.prog 29 = some [(0, 3), (3, 1)] := by kernel_rfl
@[go_sem] theorem sizeT_30 : sizeT Tryz.prog 30 = some 1 := by kernel_rfl
@[go_sem] theorem aggT_30 : aggT Tryz.prog 30 = some false := by kernel_rfl
@[go_sem] theorem bytesT_30 : bytesT Tryz.prog 30 = some 8 := by kernel_rfl
@[go_sem] theorem zeroT_30 : zeroT Tryz.prog 30 = some [AV.any] := by kernel_rfl
@[go_sem] theorem sizeT_32 : sizeT Tryz.prog 32 = some 1 := by kernel_rfl
@[go_sem] theorem aggT_32 : aggT Tryz.prog 32 = some false := by kernel_rfl
@[go_sem] theorem bytesT_32 : bytesT Tryz.prog 32 = some 24 := by kernel_rfl
@[go_sem] theorem zeroT_32 : zeroT Tryz.prog 32 = some [AV.nils] := by kernel_rfl
@[go_sem] theorem elemT_32 : elemT Tryz.prog 32 = some 41 := by kernel_rfl
@[go_sem] theorem isBytesT_32 : isBytesT Tryz.prog 32 = false := by kernel_rfl
@[go_sem] theorem sizeT_33 : sizeT Tryz.prog 33 = some 1 := by kernel_rfl
@[go_sem] theorem aggT_33 : aggT Tryz.prog 33 = some false := by kernel_rfl
@[go_sem] theorem bytesT_33 : bytesT Tryz.prog 33 = some 8 := by kernel_rfl
@[go_sem] theorem zeroT_33 : zeroT Tryz.prog 33 = some [AV.int .i64 (0)] := by kernel_rfl
@[go_sem] theorem intT_33 : intT Tryz.prog 33 = some .i64 := by kernel_rfl
@[go_sem] theorem sizeT_41 : sizeT Tryz.prog 41 = some 4 := by kernel_rfl
@[go_sem] theorem aggT_41 : aggT Tryz.prog 41 = some true := by kernel_rfl
@[go_sem] theorem bytesT_41 : bytesT Tryz.prog 41 = some 32 := by kernel_rfl
@[go_sem] theorem zeroT_41 : zeroT Tryz.prog 41 = some [AV.int .i64 (0), AV.int .i64 (0), AV.int .i64 (0), AV.int .i64 (0)] := by kernel_rfl
@[go_sem] theorem fieldT_41_0 : fieldT Tryz.prog 41 0 = some (0, 3) := by kernel_rfl
@[go_sem] theorem fieldT_41_1 : fieldT Tryz.prog 41 1 = some (1, 3) := by kernel_rfl
@[go_sem] theorem fieldT_41_2 : fieldT Tryz.prog 41 2 = some (2, 3) := by kernel_rfl
@[go_sem] theorem fieldT_41_3 : fieldT Tryz.prog 41 3 = some (3, 3) := by kernel_rfl
@[go_sem] theorem eqK_41 : eqK Tryz.prog 41 = some [.int, .int, .int, .int] := by kernel_rfl
@[go_sem] theorem placesT_41 : placesT Tryz.prog 41 = some [(0, 1), (1, 1), (2, 1), (3, 1)] := by kernel_rfl
@[go_sem] theorem sizeT_42 : sizeT Tryz.prog 42 = some 1 := by kernel_rfl
@[go_sem] theorem aggT_42 : aggT Tryz.prog 42 = some false := by kernel_rfl
@[go_sem] theorem bytesT_42 : bytesT Tryz.prog 42 = some 24 := by kernel_rfl
@[go_sem] theorem zeroT_42 : zeroT Tryz.prog 42 = some [AV.nils] := by kernel_rfl
@[go_sem] theorem elemT_42 : elemT Tryz.prog 42 = some 93 := by kernel_rfl
@[go_sem] theorem isBytesT_42 : isBytesT Tryz.prog 42 = false := by kernel_rfl
@[go_sem] theorem sizeT_47 : sizeT Tryz.prog 47 = some 1 := by kernel_rfl
@[go_sem] theorem aggT_47 : aggT Tryz.prog 47 = some false := by kernel_rfl
@[go_sem] theorem bytesT_47 : bytesT Tryz.prog 47 = some 24 := by kernel_rfl
@[go_sem] theorem zeroT_47 : zeroT Tryz.prog 47 = some [AV.nils] := by kernel_rfl
@[go_sem] theorem elemT_47 : elemT Tryz.prog 47 = some 99 := by kernel_rfl
@[go_sem] theorem isBytesT_47 : isBytesT Tryz.prog 47 = false := by kernel_rfl
@[go_sem] theorem sizeT_49 : sizeT Tryz.prog 49 = some 2 := by kernel_rfl
@[go_sem] theorem aggT_49 : aggT Tryz.prog 49 = some true := by kernel_rfl
@[go_sem] theorem bytesT_49 : bytesT Tryz.prog 49 = some 48 := by kernel_rfl
@[go_sem] theorem zeroT_49 : zeroT Tryz.prog 49 = some [AV.nils, AV.nils] := by kernel_rfl
@[go_sem] theorem fieldT_49_0 : fieldT Tryz.prog 49 0 = some (0, 47) := by kernel_rfl
@[go_sem] theorem fieldT_49_1 : fieldT Tryz.prog 49 1 = some (1, 47) := by kernel_rfl
@[go_sem] theorem placesT_49 : placesT Tryz.prog 49 = some [(0, 1), (1, 1)] := by kernel_rfl
@[go_sem] theorem sizeT_50 : sizeT Tryz.prog 50 = some 1 := by kernel_rfl
@[go_sem] theorem aggT_50 : aggT Tryz.prog 50 = some false := by kernel_rfl
@[go_sem] theorem bytesT_50 : bytesT Tryz.prog 50 = some 24 := by kernel_rfl
@[go_sem] theorem zeroT_50 : zeroT Tryz.prog 50 = some [AV.nils] := by kernel_rfl
@[go_sem] theorem elemT_50 : elemT Tryz.prog 50 = some 3 := by kernel_rfl
@[go_sem] theorem isBytesT_50 : isBytesT Tryz.prog 50 = false := by kernel_rfl
@[go_sem] theorem sizeT_55 : sizeT Tryz.prog 55 = some 1 := by kernel_rfl
@[go_sem] theorem aggT_55 : aggT Tryz.prog 55 = some false := by kernel_rfl
@[go_sem] theorem bytesT_55 : bytesT Tryz.prog 55 = some 24 := by kernel_rfl
@[go_sem] theorem zeroT_55 : zeroT Tryz.prog 55 = some [AV.nils] := by kernel_rfl
@[go_sem] theorem elemT_55 : elemT Tryz.prog 55 = some 59 := by kernel_rfl
@[go_sem] theorem isBytesT_55 : isBytesT Tryz.prog 55 = false := by kernel_rfl
@[go_sem] theorem sizeT_59 : sizeT Tryz.prog 59 = some 8 := by kernel_rfl
@[go_sem] theorem aggT_59 : aggT Tryz.prog 59 = some true := by kernel_rfl
@[go_sem] theorem bytesT_59 : bytesT Tryz.prog 59 = some 64 := by kernel_rfl
@[go_sem] theorem zeroT_59 : zeroT Tryz.prog 59 = some [AV.int .i64 (0), AV.int .i64 (0), AV.int .i64 (0), AV.int .i64 (0), AV.int .i64 (0), AV.int .i64 (0), AV.int .i64 (0), AV.int .i64 (0)] := by kernel_rfl
@[go_sem] theorem fieldT_59_0 : fieldT Tryz.prog 59 0 = some (0, 41) := by kernel_rfl
@[go_sem] theorem fieldT_59_1 : fieldT Tryz.prog 59 1 = some (4, 3) := by kernel_rfl
@[go_sem] theorem fieldT_59_2 : fieldT Tryz.prog 59 2 = some (5, 3) := by kernel_rfl
@[go_sem] theorem fieldT_59_3 : fieldT Tryz.prog 59 3 = some (6, 3) := by kernel_rfl
@[go_sem] theorem fieldT_59_4 : fieldT Tryz.prog 59 4 = some (7, 3) := by kernel_rfl
@[go_sem] theorem eqK_59 : eqK Tryz.prog 59 = some [.int, .int, .int, .int, .int, .int, .int, .int] := by kernel_rfl
@[go_sem] theorem placesT_59 : placesT Tryz.prog 59 = some [(0, 4), (4, 1), (5, 1), (6, 1), (7, 1)] := by kernel_rfl
@[go_sem] theorem sizeT_86 : sizeT Tryz.prog 86 = some 3 := by kernel_rfl
@[go_sem] theorem aggT_86 : aggT Tryz.prog 86 = some true := by kernel_rfl
@[go_sem] theorem bytesT_86 : bytesT Tryz.prog 86 = some 32 := by kernel_rfl
@[go_sem] theorem zeroT_86 : zeroT Tryz.prog 86 = some [AV.int .i64 (0), AV.int .i64 (0), AV.str ⟨#[]⟩] := by kernel_rfl
@[go_sem] theorem fieldT_86_0 : fieldT Tryz.prog 86 0 = some (0, 3) := by kernel_rfl
@[go_sem] theorem fieldT_86_1 : fieldT Tryz.prog 86 1 = some (1, 3) := by kernel_rfl
@[go_sem] theorem fieldT_86_2 : fieldT Tryz.prog 86 2 = some (2, 9) := by kernel_rfl
@[go_sem] theorem eqK_86 : eqK Tryz.prog 86 = some [.int, .int, .str] := by kernel_rfl
@[go_sem] theorem placesT_86 : placesT Tryz.prog 86 = some [(0, 1), (1, 1), (2, 1)] := by kernel_rfl
@[go_sem] theorem sizeT_93 : sizeT Tryz.prog 93 = some 8 := by kernel_rfl
@[go_sem] theorem aggT_93 : aggT Tryz.prog 93 = some true := by kernel_rfl
@[go_sem] theorem bytesT_93 : bytesT Tryz.prog 93 = some 72 := by kernel_rfl
@[go_sem] theorem zeroT_93 : zeroT Tryz.prog 93 = some [AV.int .i64 (0), AV.int .i64 (0), AV.int .i64 (0), AV.int .i64 (0), AV.int .i64 (0), AV.int .i64 (0), AV.int .i64 (0), AV.str ⟨#[]⟩] := by kernel_rfl
@[go_sem] theorem fieldT_93_0 : fieldT Tryz.prog 93 0 = some (0, 3) := by kernel_rfl
@[go_sem] theorem fieldT_93_1 : fieldT Tryz.prog 93 1 = some (1, 3) := by kernel_rfl
@[go_sem] theorem fieldT_93_2 : fieldT Tryz.prog 93 2 = some (2, 3) := by kernel_rfl
@[go_sem] theorem fieldT_93_3 : fieldT Tryz.prog 93 3 = some (3, 3) := by kernel_rfl
@[go_sem] theorem fieldT_93_4 : fieldT Tryz.prog 93 4 = some (4, 3) := by kernel_rfl
@[go_sem] theorem fieldT_93_5 : fieldT Tryz.prog 93 5 = some (5, 3) := by kernel_rfl
@[go_sem] theorem fieldT_93_6 : fieldT Tryz.prog 93 6 = some (6, 3) := by kernel_rfl
@[go_sem] theorem fieldT_93_7 : fieldT Tryz.prog 93 7 = some (7, 9) := by kernel_rfl
@[go_sem] theorem eqK_93 : eqK Tryz.prog 93 = some [.int, .int, .int, .int, .int, .int, .int, .str] := by kernel_rfl
@[go_sem] theorem placesT_93 : placesT Tryz.prog 93 = some [(0, 1), (1, 1), (2, 1), (3, 1), (4, 1), (5, 1), (6, 1), (7, 1)] := by kernel_rfl
@[go_sem] theorem sizeT_97 : sizeT Tryz.prog 97 = some 1 := by kernel_rfl
@[go_sem] theorem aggT_97 : aggT Tryz.prog 97 = some false := by kernel_rfl
@[go_sem] theorem bytesT_97 : bytesT Tryz.prog 97 = some 24 := by kernel_rfl
@[go_sem] theorem zeroT_97 : zeroT Tryz.prog 97 = some [AV.nils] := by kernel_rfl
@[go_sem] theorem elemT_97 : elemT Tryz.prog 97 = some 4 := by kernel_rfl
@[go_sem] theorem isBytesT_97 : isBytesT Tryz.prog 97 = false := by kernel_rfl
@[go_sem] theorem sizeT_99 : sizeT Tryz.prog 99 = some 2 := by kernel_rfl
@[go_sem] theorem aggT_99 : aggT Tryz.prog 99 = some true := by kernel_rfl
@[go_sem] theorem bytesT_99 : bytesT Tryz.prog 99 = some 40 := by kernel_rfl
@[go_sem] theorem zeroT_99 : zeroT Tryz.prog 99 = some [AV.str ⟨#[]⟩, AV.nils] := by kernel_rfl
@[go_sem] theorem fieldT_99_0 : fieldT Tryz.prog 99 0 = some (0, 9) := by kernel_rfl
@[go_sem] theorem fieldT_99_1 : fieldT Tryz.prog 99 1 = some (1, 97) := by kernel_rfl
@[go_sem] theorem placesT_99 : placesT Tryz.prog 99 = some [(0, 1), (1, 1)] := by kernel_rfl
@[go_sem] theorem sizeT_101 : sizeT Tryz.prog 101 = some 2 := by kernel_rfl
@[go_sem] theorem aggT_101 : aggT Tryz.prog 101 = some true := by kernel_rfl
@[go_sem] theorem bytesT_101 : bytesT Tryz.prog 101 = some 16 := by kernel_rfl
@[go_sem] theorem zeroT_101 : zeroT Tryz.prog 101 = some [AV.int .i64 (0), AV.int .i64 (0)] := by kernel_rfl
@[go_sem] theorem fieldT_101_0 : fieldT Tryz.prog 101 0 = some (0, 3) := by kernel_rfl
@[go_sem] theorem fieldT_101_1 : fieldT Tryz.prog 101 1 = some (1, 3) := by kernel_rfl
@[go_sem] theorem eqK_101 : eqK Tryz.prog 101 = some [.int, .int] := by kernel_rfl
@[go_sem] theorem placesT_101 : placesT Tryz.prog 101 = some [(0, 1), (1, 1)] := by kernel_rfl
@[go_sem] theorem sizeT_103 : sizeT Tryz.prog 103 = some 4 := by kernel_rfl
@[go_sem] theorem aggT_103 : aggT Tryz.prog 103 = some true := by kernel_rfl
@[go_sem] theorem bytesT_103 : bytesT Tryz.prog 103 = some 32 := by kernel_rfl
@[go_sem] theorem zeroT_103 : zeroT Tryz.prog 103 = some [AV.int .i64 (0), AV.int .i64 (0), AV.int .i64 (0), AV.int .i64 (0)] := by kernel_rfl
@[go_sem] theorem fieldT_103_0 : fieldT Tryz.prog 103 0 = some (0, 3) := by kernel_rfl
@[go_sem] theorem fieldT_103_1 : fieldT Tryz.prog 103 1 = some (1, 101) := by kernel_rfl
@[go_sem] theorem fieldT_103_2 : fieldT Tryz.prog 103 2 = some (3, 3) := by kernel_rfl
@[go_sem] theorem eqK_103 : eqK Tryz.prog 103 = some [.int, .int, .int, .int] := by kernel_rfl
@[go_sem] theorem placesT_103 : placesT Tryz.prog 103 = some [(0, 1), (1, 2), (3, 1)] := by kernel_rfl
@[go_sem] theorem sizeT_119 : sizeT Tryz.prog 119 = some 1 := by kernel_rfl
@[go_sem] theorem aggT_119 : aggT Tryz.prog 119 = some false := by kernel_rfl
@[go_sem] theorem bytesT_119 : bytesT Tryz.prog 119 = some 24 := by kernel_rfl
@[go_sem] theorem zeroT_119 : zeroT Tryz.prog 119 = some [AV.nils] := by kernel_rfl
@[go_sem] theorem elemT_119 : elemT Tryz.prog 119 = some 103 := by kernel_rfl
@[go_sem] theorem isBytesT_119 : isBytesT Tryz.prog 119 = false := by kernel_rfl
@[go_sem] theorem sizeT_121 : sizeT Tryz.prog 121 = some 1 := by kernel_rfl
@[go_sem] theorem aggT_121 : aggT Tryz.prog 121 = some false := by kernel_rfl
@[go_sem] theorem bytesT_121 : bytesT Tryz.prog 121 = some 8 := by kernel_rfl
@[go_sem] theorem zeroT_121 : zeroT Tryz.prog 121 = some [AV.any] := by kernel_rfl
@[go_sem] theorem sizeT_124 : sizeT Tryz.prog 124 = some 3 := by kernel_rfl
@[go_sem] theorem aggT_124 : aggT Tryz.prog 124 = some true := by kernel_rfl
@[go_sem] theorem bytesT_124 : bytesT Tryz.prog 124 = some 48 := by kernel_rfl
@[go_sem] theorem zeroT_124 : zeroT Tryz.prog 124 = some [AV.str ⟨#[]⟩, AV.nils, AV.int .i64 (0)] := by kernel_rfl
@[go_sem] theorem fieldT_124_0 : fieldT Tryz.prog 124 0 = some (0, 9) := by kernel_rfl
@[go_sem] theorem fieldT_124_1 : fieldT Tryz.prog 124 1 = some (1, 27) := by kernel_rfl
@[go_sem] theorem fieldT_124_2 : fieldT Tryz.prog 124 2 = some (2, 3) := by kernel_rfl
@[go_sem] theorem placesT_124 : placesT Tryz.prog 124 = some [(0, 1), (1, 1), (2, 1)] := by kernel_rfl
@[go_sem] theorem sizeT_125 : sizeT Tryz.prog 125 = some 1 := by kernel_rfl
@[go_sem] theorem aggT_125 : aggT Tryz.prog 125 = some false := by kernel_rfl
@[go_sem] theorem bytesT_125 : bytesT Tryz.prog 125 = some 8 := by kernel_rfl
@[go_sem] theorem zeroT_125 : zeroT Tryz.prog 125 = some [AV.any] := by kernel_rfl
@[go_sem] theorem sizeT_131 : sizeT Tryz.prog 131 = some 3 := by kernel_rfl
@[go_sem] theorem aggT_131 : aggT Tryz.prog 131 = some true := by kernel_rfl
@[go_sem] theorem bytesT_131 : bytesT Tryz.prog 131 = some 40 := by kernel_rfl
@[go_sem] theorem zeroT_131 : zeroT Tryz.prog 131 = some [AV.str ⟨#[]⟩, AV.str ⟨#[]⟩, AV.int .i64 (0)] := by kernel_rfl
@[go_sem] theorem fieldT_131_0 : fieldT Tryz.prog 131 0 = some (0, 9) := by kernel_rfl
@[go_sem] theorem fieldT_131_1 : fieldT Tryz.prog 131 1 = some (1, 9) := by kernel_rfl
@[go_sem] theorem fieldT_131_2 : fieldT Tryz.prog 131 2 = some (2, 3) := by kernel_rfl
@[go_sem] theorem eqK_131 : eqK Tryz.prog 131 = some [.str, .str, .int] := by kernel_rfl
@[go_sem] theorem placesT_131 : placesT Tryz.prog 131 = some [(0, 1), (1, 1), (2, 1)] := by kernel_rfl
@[go_sem] theorem sizeT_133 : sizeT Tryz.prog 133 = some 2 := by kernel_rfl
@[go_sem] theorem aggT_133 : aggT Tryz.prog 133 = some true := by kernel_rfl
@[go_sem] theorem bytesT_133 : bytesT Tryz.prog 133 = some 24 := by kernel_rfl
@[go_sem] theorem zeroT_133 : zeroT Tryz.prog 133 = some [AV.str ⟨#[]⟩, AV.int .i64 (0)] := by kernel_rfl
@[go_sem] theorem fieldT_133_0 : fieldT Tryz.prog 133 0 = some (0, 9) := by kernel_rfl
@[go_sem] theorem fieldT_133_1 : fieldT Tryz.prog 133 1 = some (1, 3) := by kernel_rfl
@[go_sem] theorem eqK_133 : eqK Tryz.prog 133 = some [.str, .int] := by kernel_rfl
@[go_sem] theorem placesT_133 : placesT Tryz.prog 133 = some [(0, 1), (1, 1)] := by kernel_rfl
@[go_sem] theorem sizeT_134 : sizeT Tryz.prog 134 = some 1 := by kernel_rfl
@[go_sem] theorem aggT_134 : aggT Tryz.prog 134 = some false := by kernel_rfl
@[go_sem] theorem bytesT_134 : bytesT Tryz.prog 134 = some 24 := by kernel_rfl
@[go_sem] theorem zeroT_134 : zeroT Tryz.prog 134 = some [AV.nils] := by kernel_rfl
@[go_sem] theorem elemT_134 : elemT Tryz.prog 134 = some 133 := by kernel_rfl
@[go_sem] theorem isBytesT_134 : isBytesT Tryz.prog 134 = false := by kernel_rfl
@[go_sem] theorem sizeT_136 : sizeT Tryz.prog 136 = some 8 := by kernel_rfl
@[go_sem] theorem aggT_136 : aggT Tryz.prog 136 = some true := by kernel_rfl
@[go_sem] theorem bytesT_136 : bytesT Tryz.prog 136 = some 112 := by kernel_rfl
@[go_sem] theorem zeroT_136 : zeroT Tryz.prog 136 = some [AV.str ⟨#[]⟩, AV.str ⟨#[]⟩, AV.int .i64 (0), AV.str ⟨#[]⟩, AV.nils, AV.str ⟨#[]⟩, AV.int .i64 (0), AV.bool false] := by kernel_rfl
@[go_sem] theorem fieldT_136_0 : fieldT Tryz.prog 136 0 = some (0, 131) := by kernel_rfl
@[go_sem] theorem fieldT_136_1 : fieldT Tryz.prog 136 1 = some (3, 9) := by kernel_rfl
@[go_sem] theorem fieldT_136_2 : fieldT Tryz.prog 136 2 = some (4, 134) := by kernel_rfl
@[go_sem] theorem fieldT_136_3 : fieldT Tryz.prog 136 3 = some (5, 9) := by kernel_rfl
@[go_sem] theorem fieldT_136_4 : fieldT Tryz.prog 136 4 = some (6, 3) := by kernel_rfl
@[go_sem] theorem fieldT_136_5 : fieldT Tryz.prog 136 5 = some (7, 4) := by kernel_rfl
@[go_sem] theorem placesT_136 : placesT Tryz.prog 136 = some [(0, 3), (3, 1), (4, 1), (5, 1), (6, 1), (7, 1)] := by kernel_rfl
@[go_sem] theorem sizeT_139 : sizeT Tryz.prog 139 = some 4 := by kernel_rfl
@[go_sem] theorem aggT_139 : aggT Tryz.prog 139 = some true := by kernel_rfl
@[go_sem] theorem bytesT_139 : bytesT Tryz.prog 139 = some 64 := by kernel_rfl
@[go_sem] theorem zeroT_139 : zeroT Tryz.prog 139 = some [AV.str ⟨#[]⟩, AV.str ⟨#[]⟩, AV.nils, AV.int .i64 (0)] := by kernel_rfl
@[go_sem] theorem fieldT_139_0 : fieldT Tryz.prog 139 0 = some (0, 9) := by kernel_rfl
@[go_sem] theorem fieldT_139_1 : fieldT Tryz.prog 139 1 = some (1, 9) := by kernel_rfl
@[go_sem] theorem fieldT_139_2 : fieldT Tryz.prog 139 2 = some (2, 134) := by kernel_rfl
@[go_sem] theorem fieldT_139_3 : fieldT Tryz.prog 139 3 = some (3, 3) := by kernel_rfl
@[go_sem] theorem placesT_139 : placesT Tryz.prog 139 = some [(0, 1), (1, 1), (2, 1), (3, 1)] := by kernel_rfl
@[go_sem] theorem sizeT_141 : sizeT Tryz.prog 141 = some 1 := by kernel_rfl
@[go_sem] theorem aggT_141 : aggT Tryz.prog 141 = some false := by kernel_rfl
@[go_sem] theorem bytesT_141 : bytesT Tryz.prog 141 = some 8 := by kernel_rfl
@[go_sem] theorem zeroT_141 : zeroT Tryz.prog 141 = some [AV.any] := by kernel_rfl
@[go_sem] theorem sizeT_143 : sizeT Tryz.prog 143 = some 5 := by kernel_rfl
@[go_sem] theorem aggT_143 : aggT Tryz.prog 143 = some true := by kernel_rfl
@[go_sem] theorem bytesT_143 : bytesT Tryz.prog 143 = some 120 := by kernel_rfl
@[go_sem] theorem zeroT_143 : zeroT Tryz.prog 143 = some [AV.nils, AV.nils, AV.nils, AV.nils, AV.nils] := by kernel_rfl
@[go_sem] theorem fieldT_143_0 : fieldT Tryz.prog 143 0 = some (0, 29) := by kernel_rfl
@[go_sem] theorem fieldT_143_1 : fieldT Tryz.prog 143 1 = some (4, 55) := by kernel_rfl
@[go_sem] theorem placesT_143 : placesT Tryz.prog 143 = some [(0, 4), (4, 1)] := by kernel_rfl
@[go_sem] theorem sizeT_145 : sizeT Tryz.prog 145 = some 1 := by kernel_rfl
@[go_sem] theorem aggT_145 : aggT Tryz.prog 145 = some false := by kernel_rfl
@[go_sem] theorem bytesT_145 : bytesT Tryz.prog 145 = some 8 := by kernel_rfl
@[go_sem] theorem zeroT_145 : zeroT Tryz.prog 145 = some [AV.any] := by kernel_rfl
@[go_sem] theorem sizeT_147 : sizeT Tryz.prog 147 = some 1 := by kernel_rfl
@[go_sem] theorem aggT_147 : aggT Tryz.prog 147 = some false := by kernel_rfl
@[go_sem] theorem bytesT_147 : bytesT Tryz.prog 147 = some 8 := by kernel_rfl
@[go_sem] theorem zeroT_147 : zeroT Tryz.prog 147 = some [AV.any] := by kernel_rfl
@[go_sem] theorem sizeT_148 : sizeT Tryz.prog 148 = some 1 := by kernel_rfl
@[go_sem] theorem aggT_148 : aggT Tryz.prog 148 = some false := by kernel_rfl
@[go_sem] theorem bytesT_148 : bytesT Tryz.prog 148 = some 8 := by kernel_rfl
@[go_sem] theorem zeroT_148 : zeroT Tryz.prog 148 = some [AV.any] := by kernel_rfl
@[go_sem] theorem sizeT_150 : sizeT Tryz.prog 150 = some 1 := by kernel_rfl
@[go_sem] theorem aggT_150 : aggT Tryz.prog 150 = some false := by kernel_rfl
@[go_sem] theorem bytesT_150 : bytesT Tryz.prog 150 = some 8 := by kernel_rfl
@[go_sem] theorem zeroT_150 : zeroT Tryz.prog 150 = some [AV.any] := by kernel_rfl
@[go_sem] theorem sizeT_160 : sizeT Tryz.prog 160 = some 3 := by kernel_rfl
@[go_sem] theorem aggT_160 : aggT Tryz.prog 160 = some true := by kernel_rfl
@[go_sem] theorem bytesT_160 : bytesT Tryz.prog 160 = some 24 := by kernel_rfl
@[go_sem] theorem zeroT_160 : zeroT Tryz.prog 160 = some [AV.int .i64 (0), AV.int .i64 (0), AV.int .i64 (0)] := by kernel_rfl
@[go_sem] theorem fieldT_160_0 : fieldT Tryz.prog 160 0 = some (0, 3) := by kernel_rfl
@[go_sem] theorem fieldT_160_1 : fieldT Tryz.prog 160 1 = some (1, 3) := by kernel_rfl
@[go_sem] theorem fieldT_160_2 : fieldT Tryz.prog 160 2 = some (2, 3) := by kernel_rfl
@[go_sem] theorem eqK_160 : eqK Tryz.prog 160 = some [.int, .int, .int] := by kernel_rfl
@[go_sem] theorem placesT_160 : placesT Tryz.prog 160 = some [(0, 1), (1, 1), (2, 1)] := by kernel_rfl
@[go_sem] theorem sizeT_165 : sizeT Tryz.prog 165 = some 1 := by kernel_rfl
@[go_sem] theorem aggT_165 : aggT Tryz.prog 165 = some false := by kernel_rfl
@[go_sem] theorem bytesT_165 : bytesT Tryz.prog 165 = some 24 := by kernel_rfl
@[go_sem] theorem zeroT_165 : zeroT Tryz.prog 165 = some [AV.nils] := by kernel_rfl
@[go_sem] theorem elemT_165 : elemT Tryz.prog 165 = some 33 := by kernel_rfl
@[go_sem] theorem isBytesT_165 : isBytesT Tryz.prog 165 = false := by kernel_rfl
@[go_sem] theorem sizeT_167 : sizeT Tryz.prog 167 = some 1 := by kernel_rfl
@[go_sem] theorem aggT_167 : aggT Tryz.prog 167 = some false := by kernel_rfl
@[go_sem] theorem bytesT_167 : bytesT Tryz.prog 167 = some 8 := by kernel_rfl
@[go_sem] theorem zeroT_167 : zeroT Tryz.prog 167 = some [AV.any] := by kernel_rfl
@[go_sem] theorem sizeT_170 : sizeT Tryz.prog 170 = some 1 := by kernel_rfl
@[go_sem] theorem aggT_170 : aggT Tryz.prog 170 = some false := by kernel_rfl
@[go_sem] theorem bytesT_170 : bytesT Tryz.prog 170 = some 8 := by kernel_rfl
@[go_sem] theorem zeroT_170 : zeroT Tryz.prog 170 = some [AV.any] := by kernel_rfl
@[go_sem] theorem sizeT_175 : sizeT Tryz.prog 175 = some 1 := by kernel_rfl
@[go_sem] theorem aggT_175 : aggT Tryz.prog 175 = some false := by kernel_rfl
@[go_sem] theorem bytesT_175 : bytesT Tryz.prog 175 = some 24 := by kernel_rfl
@[go_sem] theorem zeroT_175 : zeroT Tryz.prog 175 = some [AV.nils] := by kernel_rfl
@[go_sem] theorem elemT_175 : elemT Tryz.prog 175 = some 121 := by kernel_rfl
@[go_sem] theorem isBytesT_175 : isBytesT Tryz.prog 175 = false := by kernel_rfl
@[go_sem] theorem sizeT_184 : sizeT Tryz.prog 184 = some 1 := by kernel_rfl
@[go_sem] theorem aggT_184 : aggT Tryz.prog 184 = some false := by kernel_rfl
@[go_sem] theorem bytesT_184 : bytesT Tryz.prog 184 = some 8 := by kernel_rfl
@[go_sem] theorem zeroT_184 : zeroT Tryz.prog 184 = some [AV.any] := by kernel_rfl
@[go_sem] theorem sizeT_207 : sizeT Tryz.prog 207 = some 1 := by kernel_rfl
@[go_sem] theorem aggT_207 : aggT Tryz.prog 207 = some false := by kernel_rfl
@[go_sem] theorem bytesT_207 : bytesT Tryz.prog 207 = some 24 := by kernel_rfl
@[go_sem] theorem zeroT_207 : zeroT Tryz.prog 207 = some [AV.nils] := by kernel_rfl
@[go_sem] theorem elemT_207 : elemT Tryz.prog 207 = some 5 := by kernel_rfl
@[go_sem] theorem isBytesT_207 : isBytesT Tryz.prog 207 = true := by kernel_rfl
@[go_sem] theorem sizeT_216 : sizeT Tryz.prog 216 = some 1 := by kernel_rfl
@[go_sem] theorem aggT_216 : aggT Tryz.prog 216 = some false := by kernel_rfl
@[go_sem] theorem bytesT_216 : bytesT Tryz.prog 216 = some 8 := by kernel_rfl
@[go_sem] theorem zeroT_216 : zeroT Tryz.prog 216 = some [AV.int .u64 (0)] := by kernel_rfl
@[go_sem] theorem intT_216 : intT Tryz.prog 216 = some .u64 := by kernel_rfl
@[go_sem] theorem sizeT_222 : sizeT Tryz.prog 222 = some 1 := by kernel_rfl
@[go_sem] theorem aggT_222 : aggT Tryz.prog 222 = some false := by kernel_rfl
@[go_sem] theorem bytesT_222 : bytesT Tryz.prog 222 = some 8 := by kernel_rfl
@[go_sem] theorem zeroT_222 : zeroT Tryz.prog 222 = some [AV.any] := by kernel_rfl
@[go_sem] theorem sizeT_241 : sizeT Tryz.prog 241 = some 1 := by kernel_rfl
@[go_sem] theorem aggT_241 : aggT Tryz.prog 241 = some false := by kernel_rfl
@[go_sem] theorem bytesT_241 : bytesT Tryz.prog 241 = some 24 := by kernel_rfl
@[go_sem] theorem zeroT_241 : zeroT Tryz.prog 241 = some [AV.nils] := by kernel_rfl
@[go_sem] theorem elemT_241 : elemT Tryz.prog 241 = some 264 := by kernel_rfl
@[go_sem] theorem isBytesT_241 : isBytesT Tryz.prog 241 = false := by kernel_rfl
@[go_sem] theorem sizeT_264 : sizeT Tryz.prog 264 = some 2 := by kernel_rfl
@[go_sem] theorem aggT_264 : aggT Tryz.prog 264 = some true := by kernel_rfl
@[go_sem] theorem bytesT_264 : bytesT Tryz.prog 264 = some 32 := by kernel_rfl
@[go_sem] theorem zeroT_264 : zeroT Tryz.prog 264 = some [AV.str ⟨#[]⟩, AV.str ⟨#[]⟩] := by kernel_rfl
@[go_sem] theorem fieldT_264_0 : fieldT Tryz.prog 264 0 = some (0, 9) := by kernel_rfl
@[go_sem] theorem fieldT_264_1 : fieldT Tryz.prog 264 1 = some (1, 9) := by kernel_rfl
@[go_sem] theorem eqK_264 : eqK Tryz.prog 264 = some [.str, .str] := by kernel_rfl
@[go_sem] theorem placesT_264 : placesT Tryz.prog 264 = some [(0, 1), (1, 1)] := by kernel_rfl
@[go_sem] theorem sizeT_272 : sizeT Tryz.prog 272 = some 1 := by kernel_rfl
@[go_sem] theorem aggT_272 : aggT Tryz.prog 272 = some false := by kernel_rfl
@[go_sem] theorem bytesT_272 : bytesT Tryz.prog 272 = some 8 := by kernel_rfl
@[go_sem] theorem zeroT_272 : zeroT Tryz.prog 272 = some [AV.any] := by kernel_rfl

end Go.Proofs.YtbhgehhmjpipiaaGreat.Ty
