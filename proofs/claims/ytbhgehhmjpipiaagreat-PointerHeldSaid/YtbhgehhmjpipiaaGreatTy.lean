/- What the types of this seat are, for the abstract machine: printed by a program of this work, each row reckoned by the kernel. -/
import Derived.Test.YtbhgehhmjpipiaaGreatAb15
import Derived.Test.YtbhgehhmjpipiaaGreatProg
namespace Go.Proofs.YtbhgehhmjpipiaaGreat.Ty
open Go Go.Proofs Go.Proofs.YtbhgehhmjpipiaaGreat.Ab

@[go_sem] theorem sizeT_1 : sizeT Tryz.prog 1 = some 1 := by kernel_rfl
@[go_sem] theorem aggT_1 : aggT Tryz.prog 1 = some false := by kernel_rfl
@[go_sem] theorem bytesT_1 : bytesT Tryz.prog 1 = some 8 := by kernel_rfl
@[go_sem] theorem zeroT_1 : zeroT Tryz.prog 1 = some [AV.any] := by kernel_rfl
@[go_sem] theorem sizeT_2 : sizeT Tryz.prog 2 = some 1 := by kernel_rfl
@[go_sem] theorem aggT_2 : aggT Tryz.prog 2 = some false := by kernel_rfl
@[go_sem] theorem bytesT_2 : bytesT Tryz.prog 2 = some 8 := by kernel_rfl
@[go_sem] theorem zeroT_2 : zeroT Tryz.prog 2 = some [AV.int .i64 (0)] := by kernel_rfl
@[go_sem] theorem intT_2 : intT Tryz.prog 2 = some .i64 := by kernel_rfl
@[go_sem] theorem sizeT_3 : sizeT Tryz.prog 3 = some 1 := by kernel_rfl
@[go_sem] theorem aggT_3 : aggT Tryz.prog 3 = some false := by kernel_rfl
@[go_sem] theorem bytesT_3 : bytesT Tryz.prog 3 = some 8 := by kernel_rfl
@[go_sem] theorem zeroT_3 : zeroT Tryz.prog 3 = some [AV.int .i64 (0)] := by kernel_rfl
@[go_sem] theorem intT_3 : intT Tryz.prog 3 = some .i64 := by kernel_rfl
@[go_sem] theorem sizeT_4 : sizeT Tryz.prog 4 = some 1 := by kernel_rfl
@[go_sem] theorem aggT_4 : aggT Tryz.prog 4 = some false := by kernel_rfl
@[go_sem] theorem bytesT_4 : bytesT Tryz.prog 4 = some 1 := by kernel_rfl
@[go_sem] theorem zeroT_4 : zeroT Tryz.prog 4 = some [AV.bool false] := by kernel_rfl
@[go_sem] theorem isBoolT_4 : isBoolT Tryz.prog 4 = true := by kernel_rfl
@[go_sem] theorem sizeT_5 : sizeT Tryz.prog 5 = some 1 := by kernel_rfl
@[go_sem] theorem aggT_5 : aggT Tryz.prog 5 = some false := by kernel_rfl
@[go_sem] theorem bytesT_5 : bytesT Tryz.prog 5 = some 1 := by kernel_rfl
@[go_sem] theorem zeroT_5 : zeroT Tryz.prog 5 = some [AV.int .u8 (0)] := by kernel_rfl
@[go_sem] theorem intT_5 : intT Tryz.prog 5 = some .u8 := by kernel_rfl
@[go_sem] theorem sizeT_6 : sizeT Tryz.prog 6 = some 1 := by kernel_rfl
@[go_sem] theorem aggT_6 : aggT Tryz.prog 6 = some false := by kernel_rfl
@[go_sem] theorem bytesT_6 : bytesT Tryz.prog 6 = some 1 := by kernel_rfl
@[go_sem] theorem zeroT_6 : zeroT Tryz.prog 6 = some [AV.int .u8 (0)] := by kernel_rfl
@[go_sem] theorem intT_6 : intT Tryz.prog 6 = some .u8 := by kernel_rfl
@[go_sem] theorem sizeT_7 : sizeT Tryz.prog 7 = some 4 := by kernel_rfl
@[go_sem] theorem aggT_7 : aggT Tryz.prog 7 = some true := by kernel_rfl
@[go_sem] theorem bytesT_7 : bytesT Tryz.prog 7 = some 24 := by kernel_rfl
@[go_sem] theorem zeroT_7 : zeroT Tryz.prog 7 = some [AV.int .i64 (0), AV.int .i64 (0), AV.bool false, AV.int .u8 (0)] := by kernel_rfl
@[go_sem] theorem fieldT_7_0 : fieldT Tryz.prog 7 0 = some (0, 2) := by kernel_rfl
@[go_sem] theorem fieldT_7_1 : fieldT Tryz.prog 7 1 = some (1, 3) := by kernel_rfl
@[go_sem] theorem fieldT_7_2 : fieldT Tryz.prog 7 2 = some (2, 4) := by kernel_rfl
@[go_sem] theorem fieldT_7_3 : fieldT Tryz.prog 7 3 = some (3, 6) := by kernel_rfl
@[go_sem] theorem eqK_7 : eqK Tryz.prog 7 = some [.int, .int, .bool, .int] := by kernel_rfl
@[go_sem] theorem placesT_7 : placesT Tryz.prog 7 = some [(0, 1), (1, 1), (2, 1), (3, 1)] := by kernel_rfl
@[go_sem] theorem sizeT_8 : sizeT Tryz.prog 8 = some 4 := by kernel_rfl
@[go_sem] theorem aggT_8 : aggT Tryz.prog 8 = some true := by kernel_rfl
@[go_sem] theorem bytesT_8 : bytesT Tryz.prog 8 = some 24 := by kernel_rfl
@[go_sem] theorem zeroT_8 : zeroT Tryz.prog 8 = some [AV.int .i64 (0), AV.int .i64 (0), AV.bool false, AV.int .u8 (0)] := by kernel_rfl
@[go_sem] theorem fieldT_8_0 : fieldT Tryz.prog 8 0 = some (0, 2) := by kernel_rfl
@[go_sem] theorem fieldT_8_1 : fieldT Tryz.prog 8 1 = some (1, 3) := by kernel_rfl
@[go_sem] theorem fieldT_8_2 : fieldT Tryz.prog 8 2 = some (2, 4) := by kernel_rfl
@[go_sem] theorem fieldT_8_3 : fieldT Tryz.prog 8 3 = some (3, 6) := by kernel_rfl
@[go_sem] theorem eqK_8 : eqK Tryz.prog 8 = some [.int, .int, .bool, .int] := by kernel_rfl
@[go_sem] theorem placesT_8 : placesT Tryz.prog 8 = some [(0, 1), (1, 1), (2, 1), (3, 1)] := by kernel_rfl
@[go_sem] theorem sizeT_9 : sizeT Tryz.prog 9 = some 1 := by kernel_rfl
@[go_sem] theorem aggT_9 : aggT Tryz.prog 9 = some false := by kernel_rfl
@[go_sem] theorem bytesT_9 : bytesT Tryz.prog 9 = some 16 := by kernel_rfl
@[go_sem] theorem zeroT_9 : zeroT Tryz.prog 9 = some [AV.str ⟨#[]⟩] := by kernel_rfl
@[go_sem] theorem isStrT_9 : isStrT Tryz.prog 9 = true := by kernel_rfl
@[go_sem] theorem isBytesT_9 : isBytesT Tryz.prog 9 = false := by kernel_rfl
@[go_sem] theorem sizeT_10 : sizeT Tryz.prog 10 = some 1 := by kernel_rfl
@[go_sem] theorem aggT_10 : aggT Tryz.prog 10 = some false := by kernel_rfl
@[go_sem] theorem bytesT_10 : bytesT Tryz.prog 10 = some 16 := by kernel_rfl
@[go_sem] theorem zeroT_10 : zeroT Tryz.prog 10 = some [AV.str ⟨#[]⟩] := by kernel_rfl
@[go_sem] theorem isStrT_10 : isStrT Tryz.prog 10 = true := by kernel_rfl
@[go_sem] theorem isBytesT_10 : isBytesT Tryz.prog 10 = false := by kernel_rfl
@[go_sem] theorem sizeT_11 : sizeT Tryz.prog 11 = some 1 := by kernel_rfl
@[go_sem] theorem aggT_11 : aggT Tryz.prog 11 = some false := by kernel_rfl
@[go_sem] theorem bytesT_11 : bytesT Tryz.prog 11 = some 16 := by kernel_rfl
@[go_sem] theorem zeroT_11 : zeroT Tryz.prog 11 = some [AV.str ⟨#[]⟩] := by kernel_rfl
@[go_sem] theorem isStrT_11 : isStrT Tryz.prog 11 = true := by kernel_rfl
@[go_sem] theorem isBytesT_11 : isBytesT Tryz.prog 11 = false := by kernel_rfl
@[go_sem] theorem sizeT_12 : sizeT Tryz.prog 12 = some 1 := by kernel_rfl
@[go_sem] theorem aggT_12 : aggT Tryz.prog 12 = some false := by kernel_rfl
@[go_sem] theorem bytesT_12 : bytesT Tryz.prog 12 = some 8 := by kernel_rfl
@[go_sem] theorem zeroT_12 : zeroT Tryz.prog 12 = some [AV.int .u64 (0)] := by kernel_rfl
@[go_sem] theorem intT_12 : intT Tryz.prog 12 = some .u64 := by kernel_rfl
@[go_sem] theorem sizeT_13 : sizeT Tryz.prog 13 = some 2 := by kernel_rfl
@[go_sem] theorem aggT_13 : aggT Tryz.prog 13 = some true := by kernel_rfl
@[go_sem] theorem bytesT_13 : bytesT Tryz.prog 13 = some 24 := by kernel_rfl
@[go_sem] theorem zeroT_13 : zeroT Tryz.prog 13 = some [AV.str ⟨#[]⟩, AV.int .u64 (0)] := by kernel_rfl
@[go_sem] theorem fieldT_13_0 : fieldT Tryz.prog 13 0 = some (0, 9) := by kernel_rfl
@[go_sem] theorem fieldT_13_1 : fieldT Tryz.prog 13 1 = some (1, 12) := by kernel_rfl
@[go_sem] theorem placesT_13 : placesT Tryz.prog 13 = some [(0, 1), (1, 1)] := by kernel_rfl
@[go_sem] theorem sizeT_14 : sizeT Tryz.prog 14 = some 2 := by kernel_rfl
@[go_sem] theorem aggT_14 : aggT Tryz.prog 14 = some true := by kernel_rfl
@[go_sem] theorem bytesT_14 : bytesT Tryz.prog 14 = some 24 := by kernel_rfl
@[go_sem] theorem zeroT_14 : zeroT Tryz.prog 14 = some [AV.str ⟨#[]⟩, AV.int .u64 (0)] := by kernel_rfl
@[go_sem] theorem fieldT_14_0 : fieldT Tryz.prog 14 0 = some (0, 9) := by kernel_rfl
@[go_sem] theorem fieldT_14_1 : fieldT Tryz.prog 14 1 = some (1, 12) := by kernel_rfl
@[go_sem] theorem placesT_14 : placesT Tryz.prog 14 = some [(0, 1), (1, 1)] := by kernel_rfl
@[go_sem] theorem sizeT_15 : sizeT Tryz.prog 15 = some 1 := by kernel_rfl
@[go_sem] theorem aggT_15 : aggT Tryz.prog 15 = some false := by kernel_rfl
@[go_sem] theorem bytesT_15 : bytesT Tryz.prog 15 = some 8 := by kernel_rfl
@[go_sem] theorem zeroT_15 : zeroT Tryz.prog 15 = some [AV.any] := by kernel_rfl
@[go_sem] theorem sizeT_16 : sizeT Tryz.prog 16 = some 1 := by kernel_rfl
@[go_sem] theorem aggT_16 : aggT Tryz.prog 16 = some false := by kernel_rfl
@[go_sem] theorem bytesT_16 : bytesT Tryz.prog 16 = some 8 := by kernel_rfl
@[go_sem] theorem zeroT_16 : zeroT Tryz.prog 16 = some [AV.any] := by kernel_rfl
@[go_sem] theorem sizeT_17 : sizeT Tryz.prog 17 = some 1 := by kernel_rfl
@[go_sem] theorem aggT_17 : aggT Tryz.prog 17 = some false := by kernel_rfl
@[go_sem] theorem bytesT_17 : bytesT Tryz.prog 17 = some 8 := by kernel_rfl
@[go_sem] theorem zeroT_17 : zeroT Tryz.prog 17 = some [AV.any] := by kernel_rfl
@[go_sem] theorem sizeT_18 : sizeT Tryz.prog 18 = some 1 := by kernel_rfl
@[go_sem] theorem aggT_18 : aggT Tryz.prog 18 = some true := by kernel_rfl
@[go_sem] theorem bytesT_18 : bytesT Tryz.prog 18 = some 8 := by kernel_rfl
@[go_sem] theorem zeroT_18 : zeroT Tryz.prog 18 = some [AV.any] := by kernel_rfl
@[go_sem] theorem fieldT_18_0 : fieldT Tryz.prog 18 0 = some (0, 17) := by kernel_rfl
@[go_sem] theorem placesT_18 : placesT Tryz.prog 18 = some [(0, 1)] := by kernel_rfl
@[go_sem] theorem sizeT_19 : sizeT Tryz.prog 19 = some 1 := by kernel_rfl
@[go_sem] theorem aggT_19 : aggT Tryz.prog 19 = some true := by kernel_rfl
@[go_sem] theorem bytesT_19 : bytesT Tryz.prog 19 = some 8 := by kernel_rfl
@[go_sem] theorem zeroT_19 : zeroT Tryz.prog 19 = some [AV.any] := by kernel_rfl
@[go_sem] theorem fieldT_19_0 : fieldT Tryz.prog 19 0 = some (0, 17) := by kernel_rfl
@[go_sem] theorem placesT_19 : placesT Tryz.prog 19 = some [(0, 1)] := by kernel_rfl
@[go_sem] theorem sizeT_21 : sizeT Tryz.prog 21 = some 1 := by kernel_rfl
@[go_sem] theorem aggT_21 : aggT Tryz.prog 21 = some false := by kernel_rfl
@[go_sem] theorem bytesT_21 : bytesT Tryz.prog 21 = some 4 := by kernel_rfl
@[go_sem] theorem zeroT_21 : zeroT Tryz.prog 21 = some [AV.int .i32 (0)] := by kernel_rfl
@[go_sem] theorem intT_21 : intT Tryz.prog 21 = some .i32 := by kernel_rfl
@[go_sem] theorem sizeT_22 : sizeT Tryz.prog 22 = some 1 := by kernel_rfl
@[go_sem] theorem aggT_22 : aggT Tryz.prog 22 = some false := by kernel_rfl
@[go_sem] theorem bytesT_22 : bytesT Tryz.prog 22 = some 24 := by kernel_rfl
@[go_sem] theorem zeroT_22 : zeroT Tryz.prog 22 = some [AV.nils] := by kernel_rfl
@[go_sem] theorem elemT_22 : elemT Tryz.prog 22 = some 124 := by kernel_rfl
@[go_sem] theorem isBytesT_22 : isBytesT Tryz.prog 22 = false := by kernel_rfl
@[go_sem] theorem sizeT_23 : sizeT Tryz.prog 23 = some 1 := by kernel_rfl
@[go_sem] theorem aggT_23 : aggT Tryz.prog 23 = some false := by kernel_rfl
@[go_sem] theorem bytesT_23 : bytesT Tryz.prog 23 = some 24 := by kernel_rfl
@[go_sem] theorem zeroT_23 : zeroT Tryz.prog 23 = some [AV.nils] := by kernel_rfl
@[go_sem] theorem elemT_23 : elemT Tryz.prog 23 = some 139 := by kernel_rfl
@[go_sem] theorem isBytesT_23 : isBytesT Tryz.prog 23 = false := by kernel_rfl
@[go_sem] theorem sizeT_24 : sizeT Tryz.prog 24 = some 1 := by kernel_rfl
@[go_sem] theorem aggT_24 : aggT Tryz.prog 24 = some false := by kernel_rfl
@[go_sem] theorem bytesT_24 : bytesT Tryz.prog 24 = some 24 := by kernel_rfl
@[go_sem] theorem zeroT_24 : zeroT Tryz.prog 24 = some [AV.nils] := by kernel_rfl
@[go_sem] theorem elemT_24 : elemT Tryz.prog 24 = some 136 := by kernel_rfl
@[go_sem] theorem isBytesT_24 : isBytesT Tryz.prog 24 = false := by kernel_rfl
@[go_sem] theorem sizeT_25 : sizeT Tryz.prog 25 = some 3 := by kernel_rfl
@[go_sem] theorem aggT_25 : aggT Tryz.prog 25 = some true := by kernel_rfl
@[go_sem] theorem bytesT_25 : bytesT Tryz.prog 25 = some 72 := by kernel_rfl
@[go_sem] theorem zeroT_25 : zeroT Tryz.prog 25 = some [AV.nils, AV.nils, AV.nils] := by kernel_rfl
@[go_sem] theorem fieldT_25_0 : fieldT Tryz.prog 25 0 = some (0, 22) := by kernel_rfl
@[go_sem] theorem fieldT_25_1 : fieldT Tryz.prog 25 1 = some (1, 23) := by kernel_rfl
@[go_sem] theorem fieldT_25_2 : fieldT Tryz.prog 25 2 = some (2, 24) := by kernel_rfl
@[go_sem] theorem placesT_25 : placesT Tryz.prog 25 = some [(0, 1), (1, 1), (2, 1)] := by kernel_rfl
@[go_sem] theorem sizeT_26 : sizeT Tryz.prog 26 = some 3 := by kernel_rfl
@[go_sem] theorem aggT_26 : aggT Tryz.prog 26 = some true := by kernel_rfl
@[go_sem] theorem bytesT_26 : bytesT Tryz.prog 26 = some 72 := by kernel_rfl
@[go_sem] theorem zeroT_26 : zeroT Tryz.prog 26 = some [AV.nils, AV.nils, AV.nils] := by kernel_rfl
@[go_sem] theorem fieldT_26_0 : fieldT Tryz.prog 26 0 = some (0, 22) := by kernel_rfl
@[go_sem] theorem fieldT_26_1 : fieldT Tryz.prog 26 1 = some (1, 23) := by kernel_rfl
@[go_sem] theorem fieldT_26_2 : fieldT Tryz.prog 26 2 = some (2, 24) := by kernel_rfl
@[go_sem] theorem placesT_26 : placesT Tryz.prog 26 = some [(0, 1), (1, 1), (2, 1)] := by kernel_rfl
@[go_sem] theorem sizeT_27 : sizeT Tryz.prog 27 = some 1 := by kernel_rfl
@[go_sem] theorem aggT_27 : aggT Tryz.prog 27 = some false := by kernel_rfl
@[go_sem] theorem bytesT_27 : bytesT Tryz.prog 27 = some 24 := by kernel_rfl
@[go_sem] theorem zeroT_27 : zeroT Tryz.prog 27 = some [AV.nils] := by kernel_rfl
@[go_sem] theorem elemT_27 : elemT Tryz.prog 27 = some 9 := by kernel_rfl
@[go_sem] theorem isBytesT_27 : isBytesT Tryz.prog 27 = false := by kernel_rfl
@[go_sem] theorem sizeT_28 : sizeT Tryz.prog 28 = some 4 := by kernel_rfl
@[go_sem] theorem aggT_28 : aggT Tryz.prog 28 = some true := by kernel_rfl
@[go_sem] theorem bytesT_28 : bytesT Tryz.prog 28 = some 96 := by kernel_rfl
@[go_sem] theorem zeroT_28 : zeroT Tryz.prog 28 = some [AV.nils, AV.nils, AV.nils, AV.nils] := by kernel_rfl
@[go_sem] theorem fieldT_28_0 : fieldT Tryz.prog 28 0 = some (0, 26) := by kernel_rfl
@[go_sem] theorem fieldT_28_1 : fieldT Tryz.prog 28 1 = some (3, 27) := by kernel_rfl
@[go_sem] theorem placesT_28 : placesT Tryz.prog 28 = some [(0, 3), (3, 1)] := by kernel_rfl
@[go_sem] theorem sizeT_29 : sizeT Tryz.prog 29 = some 4 := by kernel_rfl
@[go_sem] theorem aggT_29 : aggT Tryz.prog 29 = some true := by kernel_rfl
@[go_sem] theorem bytesT_29 : bytesT Tryz.prog 29 = some 96 := by kernel_rfl
@[go_sem] theorem zeroT_29 : zeroT Tryz.prog 29 = some [AV.nils, AV.nils, AV.nils, AV.nils] := by kernel_rfl
@[go_sem] theorem fieldT_29_0 : fieldT Tryz.prog 29 0 = some (0, 26) := by kernel_rfl
@[go_sem] theorem fieldT_29_1 : fieldT Tryz.prog 29 1 = some (3, 27) := by kernel_rfl
@[go_sem] theorem placesT_29 : placesT Tryz.prog 29 = some [(0, 3), (3, 1)] := by kernel_rfl
@[go_sem] theorem sizeT_30 : sizeT Tryz.prog 30 = some 1 := by kernel_rfl
@[go_sem] theorem aggT_30 : aggT Tryz.prog 30 = some false := by kernel_rfl
@[go_sem] theorem bytesT_30 : bytesT Tryz.prog 30 = some 8 := by kernel_rfl
@[go_sem] theorem zeroT_30 : zeroT Tryz.prog 30 = some [AV.any] := by kernel_rfl
@[go_sem] theorem sizeT_31 : sizeT Tryz.prog 31 = some 1 := by kernel_rfl
@[go_sem] theorem aggT_31 : aggT Tryz.prog 31 = some false := by kernel_rfl
@[go_sem] theorem bytesT_31 : bytesT Tryz.prog 31 = some 8 := by kernel_rfl
@[go_sem] theorem zeroT_31 : zeroT Tryz.prog 31 = some [AV.any] := by kernel_rfl
@[go_sem] theorem sizeT_32 : sizeT Tryz.prog 32 = some 1 := by kernel_rfl
@[go_sem] theorem aggT_32 : aggT Tryz.prog 32 = some false := by kernel_rfl
@[go_sem] theorem bytesT_32 : bytesT Tryz.prog 32 = some 24 := by kernel_rfl
@[go_sem] theorem zeroT_32 : zeroT Tryz.prog 32 = some [AV.nils] := by kernel_rfl
@[go_sem] theorem elemT_32 : elemT Tryz.prog 32 = some 41 := by kernel_rfl
@[go_sem] theorem isBytesT_32 : isBytesT Tryz.prog 32 = false := by kernel_rfl
@[go_sem] theorem sizeT_33 : sizeT Tryz.prog 33 = some 1 := by kernel_rfl
@[go_sem] theorem aggT_33 : aggT Tryz.prog 33 = some false := by kernel_rfl
@[go_sem] theorem bytesT_33 : bytesT Tryz.prog 33 = some 8 := by kernel_rfl
@[go_sem] theorem zeroT_33 : zeroT Tryz.prog 33 = some [AV.int .i64 (0)] := by kernel_rfl
@[go_sem] theorem intT_33 : intT Tryz.prog 33 = some .i64 := by kernel_rfl
@[go_sem] theorem sizeT_35 : sizeT Tryz.prog 35 = some 1 := by kernel_rfl
@[go_sem] theorem aggT_35 : aggT Tryz.prog 35 = some false := by kernel_rfl
@[go_sem] theorem bytesT_35 : bytesT Tryz.prog 35 = some 8 := by kernel_rfl
@[go_sem] theorem zeroT_35 : zeroT Tryz.prog 35 = some [AV.any] := by kernel_rfl
@[go_sem] theorem sizeT_36 : sizeT Tryz.prog 36 = some 1 := by kernel_rfl
@[go_sem] theorem aggT_36 : aggT Tryz.prog 36 = some false := by kernel_rfl
@[go_sem] theorem bytesT_36 : bytesT Tryz.prog 36 = some 8 := by kernel_rfl
@[go_sem] theorem zeroT_36 : zeroT Tryz.prog 36 = some [AV.any] := by kernel_rfl
@[go_sem] theorem sizeT_37 : sizeT Tryz.prog 37 = some 1 := by kernel_rfl
@[go_sem] theorem aggT_37 : aggT Tryz.prog 37 = some false := by kernel_rfl
@[go_sem] theorem bytesT_37 : bytesT Tryz.prog 37 = some 8 := by kernel_rfl
@[go_sem] theorem zeroT_37 : zeroT Tryz.prog 37 = some [AV.any] := by kernel_rfl
@[go_sem] theorem sizeT_38 : sizeT Tryz.prog 38 = some 1 := by kernel_rfl
@[go_sem] theorem aggT_38 : aggT Tryz.prog 38 = some false := by kernel_rfl
@[go_sem] theorem bytesT_38 : bytesT Tryz.prog 38 = some 8 := by kernel_rfl
@[go_sem] theorem zeroT_38 : zeroT Tryz.prog 38 = some [AV.any] := by kernel_rfl
@[go_sem] theorem sizeT_39 : sizeT Tryz.prog 39 = some 1 := by kernel_rfl
@[go_sem] theorem aggT_39 : aggT Tryz.prog 39 = some false := by kernel_rfl
@[go_sem] theorem bytesT_39 : bytesT Tryz.prog 39 = some 8 := by kernel_rfl
@[go_sem] theorem zeroT_39 : zeroT Tryz.prog 39 = some [AV.any] := by kernel_rfl
@[go_sem] theorem sizeT_40 : sizeT Tryz.prog 40 = some 4 := by kernel_rfl
@[go_sem] theorem aggT_40 : aggT Tryz.prog 40 = some true := by kernel_rfl
@[go_sem] theorem bytesT_40 : bytesT Tryz.prog 40 = some 32 := by kernel_rfl
@[go_sem] theorem zeroT_40 : zeroT Tryz.prog 40 = some [AV.int .i64 (0), AV.int .i64 (0), AV.int .i64 (0), AV.int .i64 (0)] := by kernel_rfl
@[go_sem] theorem fieldT_40_0 : fieldT Tryz.prog 40 0 = some (0, 3) := by kernel_rfl
@[go_sem] theorem fieldT_40_1 : fieldT Tryz.prog 40 1 = some (1, 3) := by kernel_rfl
@[go_sem] theorem fieldT_40_2 : fieldT Tryz.prog 40 2 = some (2, 3) := by kernel_rfl
@[go_sem] theorem fieldT_40_3 : fieldT Tryz.prog 40 3 = some (3, 3) := by kernel_rfl
@[go_sem] theorem eqK_40 : eqK Tryz.prog 40 = some [.int, .int, .int, .int] := by kernel_rfl
@[go_sem] theorem placesT_40 : placesT Tryz.prog 40 = some [(0, 1), (1, 1), (2, 1), (3, 1)] := by kernel_rfl
@[go_sem] theorem sizeT_41 : sizeT Tryz.prog 41 = some 4 := by kernel_rfl
@[go_sem] theorem aggT_41 : aggT Tryz.prog 41 = some true := by kernel_rfl
@[go_sem] theorem bytesT_41 : bytesT Tryz.prog 41 = some 32 := by kernel_rfl
@[go_sem] theorem zeroT_41 : zeroT Tryz.prog 41 = some [AV.int .i64 (0), AV.int .i64 (0), AV.int .i64 (0), AV.int .i64 (0)] := by kernel_rfl
@[go_sem] theorem fieldT_41_0 : fieldT Tryz.prog 41 0 = some (0, 3) := by kernel_rfl
@[go_sem] theorem fieldT_41_1 : fieldT Tryz.prog 41 1 = some (1, 3) := by kernel_rfl
@[go_sem] theorem fieldT_41_2 : fieldT Tryz.prog 41 2 = some (2, 3) := by kernel_rfl
@[go_sem] theorem fieldT_41_3 : fieldT Tryz.prog 41 3 = some (3, 3) := by kernel_rfl
@[go_sem] theorem eqK_41 : eqK Tryz.prog 41 = some [.int, .int, .int, .int] := by kernel_rfl
@[go_sem] theorem placesT_41 : placesT Tryz.prog 41 = some [(0, 1), (1, 1), (2, 1), (3, 1)] := by kernel_rfl
@[go_sem] theorem sizeT_42 : sizeT Tryz.prog 42 = some 1 := by kernel_rfl
@[go_sem] theorem aggT_42 : aggT Tryz.prog 42 = some false := by kernel_rfl
@[go_sem] theorem bytesT_42 : bytesT Tryz.prog 42 = some 24 := by kernel_rfl
@[go_sem] theorem zeroT_42 : zeroT Tryz.prog 42 = some [AV.nils] := by kernel_rfl
@[go_sem] theorem elemT_42 : elemT Tryz.prog 42 = some 93 := by kernel_rfl
@[go_sem] theorem isBytesT_42 : isBytesT Tryz.prog 42 = false := by kernel_rfl
@[go_sem] theorem sizeT_44 : sizeT Tryz.prog 44 = some 1 := by kernel_rfl
@[go_sem] theorem aggT_44 : aggT Tryz.prog 44 = some false := by kernel_rfl
@[go_sem] theorem bytesT_44 : bytesT Tryz.prog 44 = some 8 := by kernel_rfl
@[go_sem] theorem zeroT_44 : zeroT Tryz.prog 44 = some [AV.any] := by kernel_rfl
@[go_sem] theorem sizeT_45 : sizeT Tryz.prog 45 = some 1 := by kernel_rfl
@[go_sem] theorem aggT_45 : aggT Tryz.prog 45 = some false := by kernel_rfl
@[go_sem] theorem bytesT_45 : bytesT Tryz.prog 45 = some 8 := by kernel_rfl
@[go_sem] theorem zeroT_45 : zeroT Tryz.prog 45 = some [AV.any] := by kernel_rfl
@[go_sem] theorem sizeT_46 : sizeT Tryz.prog 46 = some 1 := by kernel_rfl
@[go_sem] theorem aggT_46 : aggT Tryz.prog 46 = some false := by kernel_rfl
@[go_sem] theorem bytesT_46 : bytesT Tryz.prog 46 = some 8 := by kernel_rfl
@[go_sem] theorem zeroT_46 : zeroT Tryz.prog 46 = some [AV.any] := by kernel_rfl
@[go_sem] theorem sizeT_47 : sizeT Tryz.prog 47 = some 1 := by kernel_rfl
@[go_sem] theorem aggT_47 : aggT Tryz.prog 47 = some false := by kernel_rfl
@[go_sem] theorem bytesT_47 : bytesT Tryz.prog 47 = some 24 := by kernel_rfl
@[go_sem] theorem zeroT_47 : zeroT Tryz.prog 47 = some [AV.nils] := by kernel_rfl
@[go_sem] theorem elemT_47 : elemT Tryz.prog 47 = some 99 := by kernel_rfl
@[go_sem] theorem isBytesT_47 : isBytesT Tryz.prog 47 = false := by kernel_rfl
@[go_sem] theorem sizeT_48 : sizeT Tryz.prog 48 = some 2 := by kernel_rfl
@[go_sem] theorem aggT_48 : aggT Tryz.prog 48 = some true := by kernel_rfl
@[go_sem] theorem bytesT_48 : bytesT Tryz.prog 48 = some 48 := by kernel_rfl
@[go_sem] theorem zeroT_48 : zeroT Tryz.prog 48 = some [AV.nils, AV.nils] := by kernel_rfl
@[go_sem] theorem fieldT_48_0 : fieldT Tryz.prog 48 0 = some (0, 47) := by kernel_rfl
@[go_sem] theorem fieldT_48_1 : fieldT Tryz.prog 48 1 = some (1, 47) := by kernel_rfl
@[go_sem] theorem placesT_48 : placesT Tryz.prog 48 = some [(0, 1), (1, 1)] := by kernel_rfl
@[go_sem] theorem sizeT_49 : sizeT Tryz.prog 49 = some 2 := by kernel_rfl
@[go_sem] theorem aggT_49 : aggT Tryz.prog 49 = some true := by kernel_rfl
@[go_sem] theorem bytesT_49 : bytesT Tryz.prog 49 = some 48 := by kernel_rfl
@[go_sem] theorem zeroT_49 : zeroT Tryz.prog 49 = some [AV.nils, AV.nils] := by kernel_rfl
@[go_sem] theorem fieldT_49_0 : fieldT Tryz.prog 49 0 = some (0, 47) := by kernel_rfl
@[go_sem] theorem fieldT_49_1 : fieldT Tryz.prog 49 1 = some (1, 47) := by kernel_rfl
@[go_sem] theorem placesT_49 : placesT Tryz.prog 49 = some [(0, 1), (1, 1)] := by kernel_rfl
@[go_sem] theorem sizeT_50 : sizeT Tryz.prog 50 = some 1 := by kernel_rfl
@[go_sem] theorem aggT_50 : aggT Tryz.prog 50 = some false := by kernel_rfl
@[go_sem] theorem bytesT_50 : bytesT Tryz.prog 50 = some 24 := by kernel_rfl
@[go_sem] theorem zeroT_50 : zeroT Tryz.prog 50 = some [AV.nils] := by kernel_rfl
@[go_sem] theorem elemT_50 : elemT Tryz.prog 50 = some 3 := by kernel_rfl
@[go_sem] theorem isBytesT_50 : isBytesT Tryz.prog 50 = false := by kernel_rfl
@[go_sem] theorem sizeT_52 : sizeT Tryz.prog 52 = some 1 := by kernel_rfl
@[go_sem] theorem aggT_52 : aggT Tryz.prog 52 = some false := by kernel_rfl
@[go_sem] theorem bytesT_52 : bytesT Tryz.prog 52 = some 8 := by kernel_rfl
@[go_sem] theorem zeroT_52 : zeroT Tryz.prog 52 = some [AV.any] := by kernel_rfl
@[go_sem] theorem sizeT_53 : sizeT Tryz.prog 53 = some 1 := by kernel_rfl
@[go_sem] theorem aggT_53 : aggT Tryz.prog 53 = some false := by kernel_rfl
@[go_sem] theorem bytesT_53 : bytesT Tryz.prog 53 = some 8 := by kernel_rfl
@[go_sem] theorem zeroT_53 : zeroT Tryz.prog 53 = some [AV.any] := by kernel_rfl
@[go_sem] theorem sizeT_54 : sizeT Tryz.prog 54 = some 1 := by kernel_rfl
@[go_sem] theorem aggT_54 : aggT Tryz.prog 54 = some false := by kernel_rfl
@[go_sem] theorem bytesT_54 : bytesT Tryz.prog 54 = some 8 := by kernel_rfl
@[go_sem] theorem zeroT_54 : zeroT Tryz.prog 54 = some [AV.any] := by kernel_rfl
@[go_sem] theorem sizeT_55 : sizeT Tryz.prog 55 = some 1 := by kernel_rfl
@[go_sem] theorem aggT_55 : aggT Tryz.prog 55 = some false := by kernel_rfl
@[go_sem] theorem bytesT_55 : bytesT Tryz.prog 55 = some 24 := by kernel_rfl
@[go_sem] theorem zeroT_55 : zeroT Tryz.prog 55 = some [AV.nils] := by kernel_rfl
@[go_sem] theorem elemT_55 : elemT Tryz.prog 55 = some 59 := by kernel_rfl
@[go_sem] theorem isBytesT_55 : isBytesT Tryz.prog 55 = false := by kernel_rfl
@[go_sem] theorem sizeT_57 : sizeT Tryz.prog 57 = some 1 := by kernel_rfl
@[go_sem] theorem aggT_57 : aggT Tryz.prog 57 = some false := by kernel_rfl
@[go_sem] theorem bytesT_57 : bytesT Tryz.prog 57 = some 8 := by kernel_rfl
@[go_sem] theorem zeroT_57 : zeroT Tryz.prog 57 = some [AV.any] := by kernel_rfl
@[go_sem] theorem sizeT_58 : sizeT Tryz.prog 58 = some 8 := by kernel_rfl
@[go_sem] theorem aggT_58 : aggT Tryz.prog 58 = some true := by kernel_rfl
@[go_sem] theorem bytesT_58 : bytesT Tryz.prog 58 = some 64 := by kernel_rfl
@[go_sem] theorem zeroT_58 : zeroT Tryz.prog 58 = some [AV.int .i64 (0), AV.int .i64 (0), AV.int .i64 (0), AV.int .i64 (0), AV.int .i64 (0), AV.int .i64 (0), AV.int .i64 (0), AV.int .i64 (0)] := by kernel_rfl
@[go_sem] theorem fieldT_58_0 : fieldT Tryz.prog 58 0 = some (0, 41) := by kernel_rfl
@[go_sem] theorem fieldT_58_1 : fieldT Tryz.prog 58 1 = some (4, 3) := by kernel_rfl
@[go_sem] theorem fieldT_58_2 : fieldT Tryz.prog 58 2 = some (5, 3) := by kernel_rfl
@[go_sem] theorem fieldT_58_3 : fieldT Tryz.prog 58 3 = some (6, 3) := by kernel_rfl
@[go_sem] theorem fieldT_58_4 : fieldT Tryz.prog 58 4 = some (7, 3) := by kernel_rfl
@[go_sem] theorem eqK_58 : eqK Tryz.prog 58 = some [.int, .int, .int, .int, .int, .int, .int, .int] := by kernel_rfl
@[go_sem] theorem placesT_58 : placesT Tryz.prog 58 = some [(0, 4), (4, 1), (5, 1), (6, 1), (7, 1)] := by kernel_rfl
@[go_sem] theorem sizeT_59 : sizeT Tryz.prog 59 = some 8 := by kernel_rfl
@[go_sem] theorem aggT_59 : aggT Tryz.prog 59 = some true := by kernel_rfl
@[go_sem] theorem bytesT_59 : bytesT Tryz.prog 59 = some 64 := by kernel_rfl
@[go_sem] theorem zeroT_59 : zeroT Tryz.prog 59 = some [AV.int .i64 (0), AV.int .i64 (0), AV.int .i64 (0), AV.int .i64 (0), AV.int .i64 (0), AV.int .i64 (0), AV.int .i64 (0), AV.int .i64 (0)] := by kernel_rfl
@[go_sem] theorem fieldT_59_0 : fieldT Tryz.prog 59 0 = some (0, 41) := by kernel_rfl
@[go_sem] theorem fieldT_59_1 : fieldT Tryz.prog 59 1 = some (4, 3) := by kernel_rfl
@[go_sem] theorem fieldT_59_2 : fieldT Tryz.prog 59 2 = some (5, 3) := by kernel_rfl
@[go_sem] theorem fieldT_59_3 : fieldT Tryz.prog 59 3 = some (6, 3) := by kernel_rfl
@[go_sem] theorem fieldT_59_4 : fieldT Tryz.prog 59 4 = some (7, 3) := by kernel_rfl
@[go_sem] theorem eqK_59 : eqK Tryz.prog 59 = some [.int, .int, .int, .int, .int, .int, .int, .int] := by kernel_rfl
@[go_sem] theorem placesT_59 : placesT Tryz.prog 59 = some [(0, 4), (4, 1), (5, 1), (6, 1), (7, 1)] := by kernel_rfl
@[go_sem] theorem sizeT_61 : sizeT Tryz.prog 61 = some 1 := by kernel_rfl
@[go_sem] theorem aggT_61 : aggT Tryz.prog 61 = some false := by kernel_rfl
@[go_sem] theorem bytesT_61 : bytesT Tryz.prog 61 = some 8 := by kernel_rfl
@[go_sem] theorem zeroT_61 : zeroT Tryz.prog 61 = some [AV.any] := by kernel_rfl
@[go_sem] theorem sizeT_63 : sizeT Tryz.prog 63 = some 1 := by kernel_rfl
@[go_sem] theorem aggT_63 : aggT Tryz.prog 63 = some false := by kernel_rfl
@[go_sem] theorem bytesT_63 : bytesT Tryz.prog 63 = some 8 := by kernel_rfl
@[go_sem] theorem zeroT_63 : zeroT Tryz.prog 63 = some [AV.any] := by kernel_rfl
@[go_sem] theorem sizeT_64 : sizeT Tryz.prog 64 = some 1 := by kernel_rfl
@[go_sem] theorem aggT_64 : aggT Tryz.prog 64 = some false := by kernel_rfl
@[go_sem] theorem bytesT_64 : bytesT Tryz.prog 64 = some 8 := by kernel_rfl
@[go_sem] theorem zeroT_64 : zeroT Tryz.prog 64 = some [AV.any] := by kernel_rfl
@[go_sem] theorem sizeT_65 : sizeT Tryz.prog 65 = some 1 := by kernel_rfl
@[go_sem] theorem aggT_65 : aggT Tryz.prog 65 = some false := by kernel_rfl
@[go_sem] theorem bytesT_65 : bytesT Tryz.prog 65 = some 8 := by kernel_rfl
@[go_sem] theorem zeroT_65 : zeroT Tryz.prog 65 = some [AV.any] := by kernel_rfl
@[go_sem] theorem sizeT_66 : sizeT Tryz.prog 66 = some 1 := by kernel_rfl
@[go_sem] theorem aggT_66 : aggT Tryz.prog 66 = some false := by kernel_rfl
@[go_sem] theorem bytesT_66 : bytesT Tryz.prog 66 = some 8 := by kernel_rfl
@[go_sem] theorem zeroT_66 : zeroT Tryz.prog 66 = some [AV.any] := by kernel_rfl
@[go_sem] theorem sizeT_67 : sizeT Tryz.prog 67 = some 1 := by kernel_rfl
@[go_sem] theorem aggT_67 : aggT Tryz.prog 67 = some false := by kernel_rfl
@[go_sem] theorem bytesT_67 : bytesT Tryz.prog 67 = some 8 := by kernel_rfl
@[go_sem] theorem zeroT_67 : zeroT Tryz.prog 67 = some [AV.any] := by kernel_rfl
@[go_sem] theorem sizeT_68 : sizeT Tryz.prog 68 = some 1 := by kernel_rfl
@[go_sem] theorem aggT_68 : aggT Tryz.prog 68 = some false := by kernel_rfl
@[go_sem] theorem bytesT_68 : bytesT Tryz.prog 68 = some 8 := by kernel_rfl
@[go_sem] theorem zeroT_68 : zeroT Tryz.prog 68 = some [AV.any] := by kernel_rfl
@[go_sem] theorem sizeT_69 : sizeT Tryz.prog 69 = some 1 := by kernel_rfl
@[go_sem] theorem aggT_69 : aggT Tryz.prog 69 = some false := by kernel_rfl
@[go_sem] theorem bytesT_69 : bytesT Tryz.prog 69 = some 8 := by kernel_rfl
@[go_sem] theorem zeroT_69 : zeroT Tryz.prog 69 = some [AV.any] := by kernel_rfl
@[go_sem] theorem sizeT_70 : sizeT Tryz.prog 70 = some 1 := by kernel_rfl
@[go_sem] theorem aggT_70 : aggT Tryz.prog 70 = some false := by kernel_rfl
@[go_sem] theorem bytesT_70 : bytesT Tryz.prog 70 = some 8 := by kernel_rfl
@[go_sem] theorem zeroT_70 : zeroT Tryz.prog 70 = some [AV.any] := by kernel_rfl
@[go_sem] theorem sizeT_71 : sizeT Tryz.prog 71 = some 1 := by kernel_rfl
@[go_sem] theorem aggT_71 : aggT Tryz.prog 71 = some false := by kernel_rfl
@[go_sem] theorem bytesT_71 : bytesT Tryz.prog 71 = some 8 := by kernel_rfl
@[go_sem] theorem zeroT_71 : zeroT Tryz.prog 71 = some [AV.any] := by kernel_rfl
@[go_sem] theorem sizeT_72 : sizeT Tryz.prog 72 = some 1 := by kernel_rfl
@[go_sem] theorem aggT_72 : aggT Tryz.prog 72 = some false := by kernel_rfl
@[go_sem] theorem bytesT_72 : bytesT Tryz.prog 72 = some 8 := by kernel_rfl
@[go_sem] theorem zeroT_72 : zeroT Tryz.prog 72 = some [AV.any] := by kernel_rfl
@[go_sem] theorem sizeT_73 : sizeT Tryz.prog 73 = some 1 := by kernel_rfl
@[go_sem] theorem aggT_73 : aggT Tryz.prog 73 = some false := by kernel_rfl
@[go_sem] theorem bytesT_73 : bytesT Tryz.prog 73 = some 8 := by kernel_rfl
@[go_sem] theorem zeroT_73 : zeroT Tryz.prog 73 = some [AV.any] := by kernel_rfl
@[go_sem] theorem sizeT_75 : sizeT Tryz.prog 75 = some 1 := by kernel_rfl
@[go_sem] theorem aggT_75 : aggT Tryz.prog 75 = some false := by kernel_rfl
@[go_sem] theorem bytesT_75 : bytesT Tryz.prog 75 = some 8 := by kernel_rfl
@[go_sem] theorem zeroT_75 : zeroT Tryz.prog 75 = some [AV.any] := by kernel_rfl
@[go_sem] theorem sizeT_76 : sizeT Tryz.prog 76 = some 1 := by kernel_rfl
@[go_sem] theorem aggT_76 : aggT Tryz.prog 76 = some false := by kernel_rfl
@[go_sem] theorem bytesT_76 : bytesT Tryz.prog 76 = some 8 := by kernel_rfl
@[go_sem] theorem zeroT_76 : zeroT Tryz.prog 76 = some [AV.any] := by kernel_rfl
@[go_sem] theorem sizeT_77 : sizeT Tryz.prog 77 = some 1 := by kernel_rfl
@[go_sem] theorem aggT_77 : aggT Tryz.prog 77 = some false := by kernel_rfl
@[go_sem] theorem bytesT_77 : bytesT Tryz.prog 77 = some 8 := by kernel_rfl
@[go_sem] theorem zeroT_77 : zeroT Tryz.prog 77 = some [AV.any] := by kernel_rfl
@[go_sem] theorem sizeT_78 : sizeT Tryz.prog 78 = some 1 := by kernel_rfl
@[go_sem] theorem aggT_78 : aggT Tryz.prog 78 = some false := by kernel_rfl
@[go_sem] theorem bytesT_78 : bytesT Tryz.prog 78 = some 8 := by kernel_rfl
@[go_sem] theorem zeroT_78 : zeroT Tryz.prog 78 = some [AV.any] := by kernel_rfl
@[go_sem] theorem sizeT_79 : sizeT Tryz.prog 79 = some 1 := by kernel_rfl
@[go_sem] theorem aggT_79 : aggT Tryz.prog 79 = some false := by kernel_rfl
@[go_sem] theorem bytesT_79 : bytesT Tryz.prog 79 = some 8 := by kernel_rfl
@[go_sem] theorem zeroT_79 : zeroT Tryz.prog 79 = some [AV.any] := by kernel_rfl
@[go_sem] theorem sizeT_80 : sizeT Tryz.prog 80 = some 1 := by kernel_rfl
@[go_sem] theorem aggT_80 : aggT Tryz.prog 80 = some false := by kernel_rfl
@[go_sem] theorem bytesT_80 : bytesT Tryz.prog 80 = some 8 := by kernel_rfl
@[go_sem] theorem zeroT_80 : zeroT Tryz.prog 80 = some [AV.any] := by kernel_rfl
@[go_sem] theorem sizeT_81 : sizeT Tryz.prog 81 = some 1 := by kernel_rfl
@[go_sem] theorem aggT_81 : aggT Tryz.prog 81 = some false := by kernel_rfl
@[go_sem] theorem bytesT_81 : bytesT Tryz.prog 81 = some 8 := by kernel_rfl
@[go_sem] theorem zeroT_81 : zeroT Tryz.prog 81 = some [AV.any] := by kernel_rfl
@[go_sem] theorem sizeT_82 : sizeT Tryz.prog 82 = some 1 := by kernel_rfl
@[go_sem] theorem aggT_82 : aggT Tryz.prog 82 = some false := by kernel_rfl
@[go_sem] theorem bytesT_82 : bytesT Tryz.prog 82 = some 8 := by kernel_rfl
@[go_sem] theorem zeroT_82 : zeroT Tryz.prog 82 = some [AV.any] := by kernel_rfl
@[go_sem] theorem sizeT_83 : sizeT Tryz.prog 83 = some 1 := by kernel_rfl
@[go_sem] theorem aggT_83 : aggT Tryz.prog 83 = some false := by kernel_rfl
@[go_sem] theorem bytesT_83 : bytesT Tryz.prog 83 = some 8 := by kernel_rfl
@[go_sem] theorem zeroT_83 : zeroT Tryz.prog 83 = some [AV.any] := by kernel_rfl
@[go_sem] theorem sizeT_84 : sizeT Tryz.prog 84 = some 1 := by kernel_rfl
@[go_sem] theorem aggT_84 : aggT Tryz.prog 84 = some false := by kernel_rfl
@[go_sem] theorem bytesT_84 : bytesT Tryz.prog 84 = some 8 := by kernel_rfl
@[go_sem] theorem zeroT_84 : zeroT Tryz.prog 84 = some [AV.any] := by kernel_rfl
@[go_sem] theorem sizeT_85 : sizeT Tryz.prog 85 = some 3 := by kernel_rfl
@[go_sem] theorem aggT_85 : aggT Tryz.prog 85 = some true := by kernel_rfl
@[go_sem] theorem bytesT_85 : bytesT Tryz.prog 85 = some 32 := by kernel_rfl
@[go_sem] theorem zeroT_85 : zeroT Tryz.prog 85 = some [AV.int .i64 (0), AV.int .i64 (0), AV.str ⟨#[]⟩] := by kernel_rfl
@[go_sem] theorem fieldT_85_0 : fieldT Tryz.prog 85 0 = some (0, 3) := by kernel_rfl
@[go_sem] theorem fieldT_85_1 : fieldT Tryz.prog 85 1 = some (1, 3) := by kernel_rfl
@[go_sem] theorem fieldT_85_2 : fieldT Tryz.prog 85 2 = some (2, 9) := by kernel_rfl
@[go_sem] theorem eqK_85 : eqK Tryz.prog 85 = some [.int, .int, .str] := by kernel_rfl
@[go_sem] theorem placesT_85 : placesT Tryz.prog 85 = some [(0, 1), (1, 1), (2, 1)] := by kernel_rfl
@[go_sem] theorem sizeT_86 : sizeT Tryz.prog 86 = some 3 := by kernel_rfl
@[go_sem] theorem aggT_86 : aggT Tryz.prog 86 = some true := by kernel_rfl
@[go_sem] theorem bytesT_86 : bytesT Tryz.prog 86 = some 32 := by kernel_rfl
@[go_sem] theorem zeroT_86 : zeroT Tryz.prog 86 = some [AV.int .i64 (0), AV.int .i64 (0), AV.str ⟨#[]⟩] := by kernel_rfl
@[go_sem] theorem fieldT_86_0 : fieldT Tryz.prog 86 0 = some (0, 3) := by kernel_rfl
@[go_sem] theorem fieldT_86_1 : fieldT Tryz.prog 86 1 = some (1, 3) := by kernel_rfl
@[go_sem] theorem fieldT_86_2 : fieldT Tryz.prog 86 2 = some (2, 9) := by kernel_rfl
@[go_sem] theorem eqK_86 : eqK Tryz.prog 86 = some [.int, .int, .str] := by kernel_rfl
@[go_sem] theorem placesT_86 : placesT Tryz.prog 86 = some [(0, 1), (1, 1), (2, 1)] := by kernel_rfl
@[go_sem] theorem sizeT_87 : sizeT Tryz.prog 87 = some 1 := by kernel_rfl
@[go_sem] theorem aggT_87 : aggT Tryz.prog 87 = some false := by kernel_rfl
@[go_sem] theorem bytesT_87 : bytesT Tryz.prog 87 = some 8 := by kernel_rfl
@[go_sem] theorem zeroT_87 : zeroT Tryz.prog 87 = some [AV.any] := by kernel_rfl
@[go_sem] theorem sizeT_88 : sizeT Tryz.prog 88 = some 1 := by kernel_rfl
@[go_sem] theorem aggT_88 : aggT Tryz.prog 88 = some false := by kernel_rfl
@[go_sem] theorem bytesT_88 : bytesT Tryz.prog 88 = some 8 := by kernel_rfl
@[go_sem] theorem zeroT_88 : zeroT Tryz.prog 88 = some [AV.any] := by kernel_rfl
@[go_sem] theorem sizeT_89 : sizeT Tryz.prog 89 = some 1 := by kernel_rfl
@[go_sem] theorem aggT_89 : aggT Tryz.prog 89 = some false := by kernel_rfl
@[go_sem] theorem bytesT_89 : bytesT Tryz.prog 89 = some 8 := by kernel_rfl
@[go_sem] theorem zeroT_89 : zeroT Tryz.prog 89 = some [AV.any] := by kernel_rfl
@[go_sem] theorem sizeT_90 : sizeT Tryz.prog 90 = some 1 := by kernel_rfl
@[go_sem] theorem aggT_90 : aggT Tryz.prog 90 = some false := by kernel_rfl
@[go_sem] theorem bytesT_90 : bytesT Tryz.prog 90 = some 8 := by kernel_rfl
@[go_sem] theorem zeroT_90 : zeroT Tryz.prog 90 = some [AV.any] := by kernel_rfl
@[go_sem] theorem sizeT_91 : sizeT Tryz.prog 91 = some 1 := by kernel_rfl
@[go_sem] theorem aggT_91 : aggT Tryz.prog 91 = some false := by kernel_rfl
@[go_sem] theorem bytesT_91 : bytesT Tryz.prog 91 = some 8 := by kernel_rfl
@[go_sem] theorem zeroT_91 : zeroT Tryz.prog 91 = some [AV.any] := by kernel_rfl
@[go_sem] theorem sizeT_92 : sizeT Tryz.prog 92 = some 8 := by kernel_rfl
@[go_sem] theorem aggT_92 : aggT Tryz.prog 92 = some true := by kernel_rfl
@[go_sem] theorem bytesT_92 : bytesT Tryz.prog 92 = some 72 := by kernel_rfl
@[go_sem] theorem zeroT_92 : zeroT Tryz.prog 92 = some [AV.int .i64 (0), AV.int .i64 (0), AV.int .i64 (0), AV.int .i64 (0), AV.int .i64 (0), AV.int .i64 (0), AV.int .i64 (0), AV.str ⟨#[]⟩] := by kernel_rfl
@[go_sem] theorem fieldT_92_0 : fieldT Tryz.prog 92 0 = some (0, 3) := by kernel_rfl
@[go_sem] theorem fieldT_92_1 : fieldT Tryz.prog 92 1 = some (1, 3) := by kernel_rfl
@[go_sem] theorem fieldT_92_2 : fieldT Tryz.prog 92 2 = some (2, 3) := by kernel_rfl
@[go_sem] theorem fieldT_92_3 : fieldT Tryz.prog 92 3 = some (3, 3) := by kernel_rfl
@[go_sem] theorem fieldT_92_4 : fieldT Tryz.prog 92 4 = some (4, 3) := by kernel_rfl
@[go_sem] theorem fieldT_92_5 : fieldT Tryz.prog 92 5 = some (5, 3) := by kernel_rfl
@[go_sem] theorem fieldT_92_6 : fieldT Tryz.prog 92 6 = some (6, 3) := by kernel_rfl
@[go_sem] theorem fieldT_92_7 : fieldT Tryz.prog 92 7 = some (7, 9) := by kernel_rfl
@[go_sem] theorem eqK_92 : eqK Tryz.prog 92 = some [.int, .int, .int, .int, .int, .int, .int, .str] := by kernel_rfl
@[go_sem] theorem placesT_92 : placesT Tryz.prog 92 = some [(0, 1), (1, 1), (2, 1), (3, 1), (4, 1), (5, 1), (6, 1), (7, 1)] := by kernel_rfl
@[go_sem] theorem sizeT_93 : sizeT Tryz.prog 93 = some 8 := by kernel_rfl
@[go_sem] theorem aggT_93 : aggT Tryz.prog 93 = some true := by kernel_rfl
@[go_sem] theorem bytesT_93 : bytesT Tryz.prog 93 = some 72 := by kernel_rfl
@[go_sem] theorem zeroT_93 : zeroT Tryz.prog 93 = some [AV.int .i64 (0), AV.int .i64 (0), AV.int .i64 (0), AV.int .i64 (0), AV.int .i64 (0), AV.int .i64 (0), AV.int .i64 (0), AV.str ⟨#[]⟩] := by kernel_rfl
@[go_sem] theorem fieldT_93_0 : fieldT Tryz.prog 93 0 = some (0, 3) := by kernel_rfl
@[go_sem] theorem fieldT_93_1 : fieldT Tryz.prog 93 1 = some (1, 3) := by kernel_rfl
@[go_sem] theorem fieldT_93_2 : fieldT Tryz.prog 93 2 = some (2, 3) := by kernel_rfl
@[go_sem] theorem fieldT_93_3 : fieldT Tryz.prog 93 3 = some (3, 3) := by kernel_rfl
@[go_sem] theorem fieldT_93_4 : fieldT Tryz.prog 93 4 = some (4, 3) := by kernel_rfl
@[go_sem] theorem fieldT_93_5 : fieldT Tryz.prog 93 5 = some (5, 3) := by kernel_rfl
@[go_sem] theorem fieldT_93_6 : fieldT Tryz.prog 93 6 = some (6, 3) := by kernel_rfl
@[go_sem] theorem fieldT_93_7 : fieldT Tryz.prog 93 7 = some (7, 9) := by kernel_rfl
@[go_sem] theorem eqK_93 : eqK Tryz.prog 93 = some [.int, .int, .int, .int, .int, .int, .int, .str] := by kernel_rfl
@[go_sem] theorem placesT_93 : placesT Tryz.prog 93 = some [(0, 1), (1, 1), (2, 1), (3, 1), (4, 1), (5, 1), (6, 1), (7, 1)] := by kernel_rfl
@[go_sem] theorem sizeT_95 : sizeT Tryz.prog 95 = some 1 := by kernel_rfl
@[go_sem] theorem aggT_95 : aggT Tryz.prog 95 = some false := by kernel_rfl
@[go_sem] theorem bytesT_95 : bytesT Tryz.prog 95 = some 8 := by kernel_rfl
@[go_sem] theorem zeroT_95 : zeroT Tryz.prog 95 = some [AV.any] := by kernel_rfl
@[go_sem] theorem sizeT_96 : sizeT Tryz.prog 96 = some 1 := by kernel_rfl
@[go_sem] theorem aggT_96 : aggT Tryz.prog 96 = some false := by kernel_rfl
@[go_sem] theorem bytesT_96 : bytesT Tryz.prog 96 = some 8 := by kernel_rfl
@[go_sem] theorem zeroT_96 : zeroT Tryz.prog 96 = some [AV.any] := by kernel_rfl
@[go_sem] theorem sizeT_97 : sizeT Tryz.prog 97 = some 1 := by kernel_rfl
@[go_sem] theorem aggT_97 : aggT Tryz.prog 97 = some false := by kernel_rfl
@[go_sem] theorem bytesT_97 : bytesT Tryz.prog 97 = some 24 := by kernel_rfl
@[go_sem] theorem zeroT_97 : zeroT Tryz.prog 97 = some [AV.nils] := by kernel_rfl
@[go_sem] theorem elemT_97 : elemT Tryz.prog 97 = some 4 := by kernel_rfl
@[go_sem] theorem isBytesT_97 : isBytesT Tryz.prog 97 = false := by kernel_rfl
@[go_sem] theorem sizeT_98 : sizeT Tryz.prog 98 = some 2 := by kernel_rfl
@[go_sem] theorem aggT_98 : aggT Tryz.prog 98 = some true := by kernel_rfl
@[go_sem] theorem bytesT_98 : bytesT Tryz.prog 98 = some 40 := by kernel_rfl
@[go_sem] theorem zeroT_98 : zeroT Tryz.prog 98 = some [AV.str ⟨#[]⟩, AV.nils] := by kernel_rfl
@[go_sem] theorem fieldT_98_0 : fieldT Tryz.prog 98 0 = some (0, 9) := by kernel_rfl
@[go_sem] theorem fieldT_98_1 : fieldT Tryz.prog 98 1 = some (1, 97) := by kernel_rfl
@[go_sem] theorem placesT_98 : placesT Tryz.prog 98 = some [(0, 1), (1, 1)] := by kernel_rfl
@[go_sem] theorem sizeT_99 : sizeT Tryz.prog 99 = some 2 := by kernel_rfl
@[go_sem] theorem aggT_99 : aggT Tryz.prog 99 = some true := by kernel_rfl
@[go_sem] theorem bytesT_99 : bytesT Tryz.prog 99 = some 40 := by kernel_rfl
@[go_sem] theorem zeroT_99 : zeroT Tryz.prog 99 = some [AV.str ⟨#[]⟩, AV.nils] := by kernel_rfl
@[go_sem] theorem fieldT_99_0 : fieldT Tryz.prog 99 0 = some (0, 9) := by kernel_rfl
@[go_sem] theorem fieldT_99_1 : fieldT Tryz.prog 99 1 = some (1, 97) := by kernel_rfl
@[go_sem] theorem placesT_99 : placesT Tryz.prog 99 = some [(0, 1), (1, 1)] := by kernel_rfl
@[go_sem] theorem sizeT_100 : sizeT Tryz.prog 100 = some 2 := by kernel_rfl
@[go_sem] theorem aggT_100 : aggT Tryz.prog 100 = some true := by kernel_rfl
@[go_sem] theorem bytesT_100 : bytesT Tryz.prog 100 = some 16 := by kernel_rfl
@[go_sem] theorem zeroT_100 : zeroT Tryz.prog 100 = some [AV.int .i64 (0), AV.int .i64 (0)] := by kernel_rfl
@[go_sem] theorem fieldT_100_0 : fieldT Tryz.prog 100 0 = some (0, 3) := by kernel_rfl
@[go_sem] theorem fieldT_100_1 : fieldT Tryz.prog 100 1 = some (1, 3) := by kernel_rfl
@[go_sem] theorem eqK_100 : eqK Tryz.prog 100 = some [.int, .int] := by kernel_rfl
@[go_sem] theorem placesT_100 : placesT Tryz.prog 100 = some [(0, 1), (1, 1)] := by kernel_rfl
@[go_sem] theorem sizeT_101 : sizeT Tryz.prog 101 = some 2 := by kernel_rfl
@[go_sem] theorem aggT_101 : aggT Tryz.prog 101 = some true := by kernel_rfl
@[go_sem] theorem bytesT_101 : bytesT Tryz.prog 101 = some 16 := by kernel_rfl
@[go_sem] theorem zeroT_101 : zeroT Tryz.prog 101 = some [AV.int .i64 (0), AV.int .i64 (0)] := by kernel_rfl
@[go_sem] theorem fieldT_101_0 : fieldT Tryz.prog 101 0 = some (0, 3) := by kernel_rfl
@[go_sem] theorem fieldT_101_1 : fieldT Tryz.prog 101 1 = some (1, 3) := by kernel_rfl
@[go_sem] theorem eqK_101 : eqK Tryz.prog 101 = some [.int, .int] := by kernel_rfl
@[go_sem] theorem placesT_101 : placesT Tryz.prog 101 = some [(0, 1), (1, 1)] := by kernel_rfl
@[go_sem] theorem sizeT_102 : sizeT Tryz.prog 102 = some 4 := by kernel_rfl
@[go_sem] theorem aggT_102 : aggT Tryz.prog 102 = some true := by kernel_rfl
@[go_sem] theorem bytesT_102 : bytesT Tryz.prog 102 = some 32 := by kernel_rfl
@[go_sem] theorem zeroT_102 : zeroT Tryz.prog 102 = some [AV.int .i64 (0), AV.int .i64 (0), AV.int .i64 (0), AV.int .i64 (0)] := by kernel_rfl
@[go_sem] theorem fieldT_102_0 : fieldT Tryz.prog 102 0 = some (0, 3) := by kernel_rfl
@[go_sem] theorem fieldT_102_1 : fieldT Tryz.prog 102 1 = some (1, 101) := by kernel_rfl
@[go_sem] theorem fieldT_102_2 : fieldT Tryz.prog 102 2 = some (3, 3) := by kernel_rfl
@[go_sem] theorem eqK_102 : eqK Tryz.prog 102 = some [.int, .int, .int, .int] := by kernel_rfl
@[go_sem] theorem placesT_102 : placesT Tryz.prog 102 = some [(0, 1), (1, 2), (3, 1)] := by kernel_rfl
@[go_sem] theorem sizeT_103 : sizeT Tryz.prog 103 = some 4 := by kernel_rfl
@[go_sem] theorem aggT_103 : aggT Tryz.prog 103 = some true := by kernel_rfl
@[go_sem] theorem bytesT_103 : bytesT Tryz.prog 103 = some 32 := by kernel_rfl
@[go_sem] theorem zeroT_103 : zeroT Tryz.prog 103 = some [AV.int .i64 (0), AV.int .i64 (0), AV.int .i64 (0), AV.int .i64 (0)] := by kernel_rfl
@[go_sem] theorem fieldT_103_0 : fieldT Tryz.prog 103 0 = some (0, 3) := by kernel_rfl
@[go_sem] theorem fieldT_103_1 : fieldT Tryz.prog 103 1 = some (1, 101) := by kernel_rfl
@[go_sem] theorem fieldT_103_2 : fieldT Tryz.prog 103 2 = some (3, 3) := by kernel_rfl
@[go_sem] theorem eqK_103 : eqK Tryz.prog 103 = some [.int, .int, .int, .int] := by kernel_rfl
@[go_sem] theorem placesT_103 : placesT Tryz.prog 103 = some [(0, 1), (1, 2), (3, 1)] := by kernel_rfl
@[go_sem] theorem sizeT_105 : sizeT Tryz.prog 105 = some 1 := by kernel_rfl
@[go_sem] theorem aggT_105 : aggT Tryz.prog 105 = some false := by kernel_rfl
@[go_sem] theorem bytesT_105 : bytesT Tryz.prog 105 = some 8 := by kernel_rfl
@[go_sem] theorem zeroT_105 : zeroT Tryz.prog 105 = some [AV.any] := by kernel_rfl
@[go_sem] theorem sizeT_106 : sizeT Tryz.prog 106 = some 1 := by kernel_rfl
@[go_sem] theorem aggT_106 : aggT Tryz.prog 106 = some false := by kernel_rfl
@[go_sem] theorem bytesT_106 : bytesT Tryz.prog 106 = some 8 := by kernel_rfl
@[go_sem] theorem zeroT_106 : zeroT Tryz.prog 106 = some [AV.any] := by kernel_rfl
@[go_sem] theorem sizeT_107 : sizeT Tryz.prog 107 = some 1 := by kernel_rfl
@[go_sem] theorem aggT_107 : aggT Tryz.prog 107 = some false := by kernel_rfl
@[go_sem] theorem bytesT_107 : bytesT Tryz.prog 107 = some 8 := by kernel_rfl
@[go_sem] theorem zeroT_107 : zeroT Tryz.prog 107 = some [AV.any] := by kernel_rfl
@[go_sem] theorem sizeT_108 : sizeT Tryz.prog 108 = some 1 := by kernel_rfl
@[go_sem] theorem aggT_108 : aggT Tryz.prog 108 = some false := by kernel_rfl
@[go_sem] theorem bytesT_108 : bytesT Tryz.prog 108 = some 8 := by kernel_rfl
@[go_sem] theorem zeroT_108 : zeroT Tryz.prog 108 = some [AV.any] := by kernel_rfl
@[go_sem] theorem sizeT_109 : sizeT Tryz.prog 109 = some 1 := by kernel_rfl
@[go_sem] theorem aggT_109 : aggT Tryz.prog 109 = some false := by kernel_rfl
@[go_sem] theorem bytesT_109 : bytesT Tryz.prog 109 = some 8 := by kernel_rfl
@[go_sem] theorem zeroT_109 : zeroT Tryz.prog 109 = some [AV.any] := by kernel_rfl
@[go_sem] theorem sizeT_110 : sizeT Tryz.prog 110 = some 1 := by kernel_rfl
@[go_sem] theorem aggT_110 : aggT Tryz.prog 110 = some false := by kernel_rfl
@[go_sem] theorem bytesT_110 : bytesT Tryz.prog 110 = some 8 := by kernel_rfl
@[go_sem] theorem zeroT_110 : zeroT Tryz.prog 110 = some [AV.any] := by kernel_rfl
@[go_sem] theorem sizeT_111 : sizeT Tryz.prog 111 = some 1 := by kernel_rfl
@[go_sem] theorem aggT_111 : aggT Tryz.prog 111 = some false := by kernel_rfl
@[go_sem] theorem bytesT_111 : bytesT Tryz.prog 111 = some 8 := by kernel_rfl
@[go_sem] theorem zeroT_111 : zeroT Tryz.prog 111 = some [AV.any] := by kernel_rfl
@[go_sem] theorem sizeT_112 : sizeT Tryz.prog 112 = some 1 := by kernel_rfl
@[go_sem] theorem aggT_112 : aggT Tryz.prog 112 = some false := by kernel_rfl
@[go_sem] theorem bytesT_112 : bytesT Tryz.prog 112 = some 8 := by kernel_rfl
@[go_sem] theorem zeroT_112 : zeroT Tryz.prog 112 = some [AV.any] := by kernel_rfl
@[go_sem] theorem sizeT_113 : sizeT Tryz.prog 113 = some 1 := by kernel_rfl
@[go_sem] theorem aggT_113 : aggT Tryz.prog 113 = some false := by kernel_rfl
@[go_sem] theorem bytesT_113 : bytesT Tryz.prog 113 = some 8 := by kernel_rfl
@[go_sem] theorem zeroT_113 : zeroT Tryz.prog 113 = some [AV.any] := by kernel_rfl
@[go_sem] theorem sizeT_114 : sizeT Tryz.prog 114 = some 1 := by kernel_rfl
@[go_sem] theorem aggT_114 : aggT Tryz.prog 114 = some false := by kernel_rfl
@[go_sem] theorem bytesT_114 : bytesT Tryz.prog 114 = some 8 := by kernel_rfl
@[go_sem] theorem zeroT_114 : zeroT Tryz.prog 114 = some [AV.any] := by kernel_rfl
@[go_sem] theorem sizeT_115 : sizeT Tryz.prog 115 = some 1 := by kernel_rfl
@[go_sem] theorem aggT_115 : aggT Tryz.prog 115 = some false := by kernel_rfl
@[go_sem] theorem bytesT_115 : bytesT Tryz.prog 115 = some 8 := by kernel_rfl
@[go_sem] theorem zeroT_115 : zeroT Tryz.prog 115 = some [AV.any] := by kernel_rfl
@[go_sem] theorem sizeT_116 : sizeT Tryz.prog 116 = some 1 := by kernel_rfl
@[go_sem] theorem aggT_116 : aggT Tryz.prog 116 = some false := by kernel_rfl
@[go_sem] theorem bytesT_116 : bytesT Tryz.prog 116 = some 8 := by kernel_rfl
@[go_sem] theorem zeroT_116 : zeroT Tryz.prog 116 = some [AV.any] := by kernel_rfl
@[go_sem] theorem sizeT_117 : sizeT Tryz.prog 117 = some 1 := by kernel_rfl
@[go_sem] theorem aggT_117 : aggT Tryz.prog 117 = some false := by kernel_rfl
@[go_sem] theorem bytesT_117 : bytesT Tryz.prog 117 = some 8 := by kernel_rfl
@[go_sem] theorem zeroT_117 : zeroT Tryz.prog 117 = some [AV.any] := by kernel_rfl
@[go_sem] theorem sizeT_118 : sizeT Tryz.prog 118 = some 1 := by kernel_rfl
@[go_sem] theorem aggT_118 : aggT Tryz.prog 118 = some false := by kernel_rfl
@[go_sem] theorem bytesT_118 : bytesT Tryz.prog 118 = some 8 := by kernel_rfl
@[go_sem] theorem zeroT_118 : zeroT Tryz.prog 118 = some [AV.any] := by kernel_rfl
@[go_sem] theorem sizeT_119 : sizeT Tryz.prog 119 = some 1 := by kernel_rfl
@[go_sem] theorem aggT_119 : aggT Tryz.prog 119 = some false := by kernel_rfl
@[go_sem] theorem bytesT_119 : bytesT Tryz.prog 119 = some 24 := by kernel_rfl
@[go_sem] theorem zeroT_119 : zeroT Tryz.prog 119 = some [AV.nils] := by kernel_rfl
@[go_sem] theorem elemT_119 : elemT Tryz.prog 119 = some 103 := by kernel_rfl
@[go_sem] theorem isBytesT_119 : isBytesT Tryz.prog 119 = false := by kernel_rfl
@[go_sem] theorem sizeT_120 : sizeT Tryz.prog 120 = some 1 := by kernel_rfl
@[go_sem] theorem aggT_120 : aggT Tryz.prog 120 = some false := by kernel_rfl
@[go_sem] theorem bytesT_120 : bytesT Tryz.prog 120 = some 8 := by kernel_rfl
@[go_sem] theorem zeroT_120 : zeroT Tryz.prog 120 = some [AV.any] := by kernel_rfl
@[go_sem] theorem sizeT_121 : sizeT Tryz.prog 121 = some 1 := by kernel_rfl
@[go_sem] theorem aggT_121 : aggT Tryz.prog 121 = some false := by kernel_rfl
@[go_sem] theorem bytesT_121 : bytesT Tryz.prog 121 = some 8 := by kernel_rfl
@[go_sem] theorem zeroT_121 : zeroT Tryz.prog 121 = some [AV.any] := by kernel_rfl
@[go_sem] theorem sizeT_122 : sizeT Tryz.prog 122 = some 1 := by kernel_rfl
@[go_sem] theorem aggT_122 : aggT Tryz.prog 122 = some false := by kernel_rfl
@[go_sem] theorem bytesT_122 : bytesT Tryz.prog 122 = some 8 := by kernel_rfl
@[go_sem] theorem zeroT_122 : zeroT Tryz.prog 122 = some [AV.any] := by kernel_rfl
@[go_sem] theorem sizeT_123 : sizeT Tryz.prog 123 = some 3 := by kernel_rfl
@[go_sem] theorem aggT_123 : aggT Tryz.prog 123 = some true := by kernel_rfl
@[go_sem] theorem bytesT_123 : bytesT Tryz.prog 123 = some 48 := by kernel_rfl
@[go_sem] theorem zeroT_123 : zeroT Tryz.prog 123 = some [AV.str ⟨#[]⟩, AV.nils, AV.int .i64 (0)] := by kernel_rfl
@[go_sem] theorem fieldT_123_0 : fieldT Tryz.prog 123 0 = some (0, 9) := by kernel_rfl
@[go_sem] theorem fieldT_123_1 : fieldT Tryz.prog 123 1 = some (1, 27) := by kernel_rfl
@[go_sem] theorem fieldT_123_2 : fieldT Tryz.prog 123 2 = some (2, 3) := by kernel_rfl
@[go_sem] theorem placesT_123 : placesT Tryz.prog 123 = some [(0, 1), (1, 1), (2, 1)] := by kernel_rfl
@[go_sem] theorem sizeT_124 : sizeT Tryz.prog 124 = some 3 := by kernel_rfl
@[go_sem] theorem aggT_124 : aggT Tryz.prog 124 = some true := by kernel_rfl
@[go_sem] theorem bytesT_124 : bytesT Tryz.prog 124 = some 48 := by kernel_rfl
@[go_sem] theorem zeroT_124 : zeroT Tryz.prog 124 = some [AV.str ⟨#[]⟩, AV.nils, AV.int .i64 (0)] := by kernel_rfl
@[go_sem] theorem fieldT_124_0 : fieldT Tryz.prog 124 0 = some (0, 9) := by kernel_rfl
@[go_sem] theorem fieldT_124_1 : fieldT Tryz.prog 124 1 = some (1, 27) := by kernel_rfl
@[go_sem] theorem fieldT_124_2 : fieldT Tryz.prog 124 2 = some (2, 3) := by kernel_rfl
@[go_sem] theorem placesT_124 : placesT Tryz.prog 124 = some [(0, 1), (1, 1), (2, 1)] := by kernel_rfl
@[go_sem] theorem sizeT_125 : sizeT Tryz.prog 125 = some 1 := by kernel_rfl
@[go_sem] theorem aggT_125 : aggT Tryz.prog 125 = some false := by kernel_rfl
@[go_sem] theorem bytesT_125 : bytesT Tryz.prog 125 = some 8 := by kernel_rfl
@[go_sem] theorem zeroT_125 : zeroT Tryz.prog 125 = some [AV.any] := by kernel_rfl
@[go_sem] theorem sizeT_126 : sizeT Tryz.prog 126 = some 1 := by kernel_rfl
@[go_sem] theorem aggT_126 : aggT Tryz.prog 126 = some false := by kernel_rfl
@[go_sem] theorem bytesT_126 : bytesT Tryz.prog 126 = some 8 := by kernel_rfl
@[go_sem] theorem zeroT_126 : zeroT Tryz.prog 126 = some [AV.any] := by kernel_rfl
@[go_sem] theorem sizeT_127 : sizeT Tryz.prog 127 = some 1 := by kernel_rfl
@[go_sem] theorem aggT_127 : aggT Tryz.prog 127 = some false := by kernel_rfl
@[go_sem] theorem bytesT_127 : bytesT Tryz.prog 127 = some 8 := by kernel_rfl
@[go_sem] theorem zeroT_127 : zeroT Tryz.prog 127 = some [AV.any] := by kernel_rfl
@[go_sem] theorem sizeT_128 : sizeT Tryz.prog 128 = some 1 := by kernel_rfl
@[go_sem] theorem aggT_128 : aggT Tryz.prog 128 = some false := by kernel_rfl
@[go_sem] theorem bytesT_128 : bytesT Tryz.prog 128 = some 8 := by kernel_rfl
@[go_sem] theorem zeroT_128 : zeroT Tryz.prog 128 = some [AV.any] := by kernel_rfl
@[go_sem] theorem sizeT_129 : sizeT Tryz.prog 129 = some 1 := by kernel_rfl
@[go_sem] theorem aggT_129 : aggT Tryz.prog 129 = some false := by kernel_rfl
@[go_sem] theorem bytesT_129 : bytesT Tryz.prog 129 = some 8 := by kernel_rfl
@[go_sem] theorem zeroT_129 : zeroT Tryz.prog 129 = some [AV.any] := by kernel_rfl
@[go_sem] theorem sizeT_130 : sizeT Tryz.prog 130 = some 3 := by kernel_rfl
@[go_sem] theorem aggT_130 : aggT Tryz.prog 130 = some true := by kernel_rfl
@[go_sem] theorem bytesT_130 : bytesT Tryz.prog 130 = some 40 := by kernel_rfl
@[go_sem] theorem zeroT_130 : zeroT Tryz.prog 130 = some [AV.str ⟨#[]⟩, AV.str ⟨#[]⟩, AV.int .i64 (0)] := by kernel_rfl
@[go_sem] theorem fieldT_130_0 : fieldT Tryz.prog 130 0 = some (0, 9) := by kernel_rfl
@[go_sem] theorem fieldT_130_1 : fieldT Tryz.prog 130 1 = some (1, 9) := by kernel_rfl
@[go_sem] theorem fieldT_130_2 : fieldT Tryz.prog 130 2 = some (2, 3) := by kernel_rfl
@[go_sem] theorem eqK_130 : eqK Tryz.prog 130 = some [.str, .str, .int] := by kernel_rfl
@[go_sem] theorem placesT_130 : placesT Tryz.prog 130 = some [(0, 1), (1, 1), (2, 1)] := by kernel_rfl
@[go_sem] theorem sizeT_131 : sizeT Tryz.prog 131 = some 3 := by kernel_rfl
@[go_sem] theorem aggT_131 : aggT Tryz.prog 131 = some true := by kernel_rfl
@[go_sem] theorem bytesT_131 : bytesT Tryz.prog 131 = some 40 := by kernel_rfl
@[go_sem] theorem zeroT_131 : zeroT Tryz.prog 131 = some [AV.str ⟨#[]⟩, AV.str ⟨#[]⟩, AV.int .i64 (0)] := by kernel_rfl
@[go_sem] theorem fieldT_131_0 : fieldT Tryz.prog 131 0 = some (0, 9) := by kernel_rfl
@[go_sem] theorem fieldT_131_1 : fieldT Tryz.prog 131 1 = some (1, 9) := by kernel_rfl
@[go_sem] theorem fieldT_131_2 : fieldT Tryz.prog 131 2 = some (2, 3) := by kernel_rfl
@[go_sem] theorem eqK_131 : eqK Tryz.prog 131 = some [.str, .str, .int] := by kernel_rfl
@[go_sem] theorem placesT_131 : placesT Tryz.prog 131 = some [(0, 1), (1, 1), (2, 1)] := by kernel_rfl
@[go_sem] theorem sizeT_132 : sizeT Tryz.prog 132 = some 2 := by kernel_rfl
@[go_sem] theorem aggT_132 : aggT Tryz.prog 132 = some true := by kernel_rfl
@[go_sem] theorem bytesT_132 : bytesT Tryz.prog 132 = some 24 := by kernel_rfl
@[go_sem] theorem zeroT_132 : zeroT Tryz.prog 132 = some [AV.str ⟨#[]⟩, AV.int .i64 (0)] := by kernel_rfl
@[go_sem] theorem fieldT_132_0 : fieldT Tryz.prog 132 0 = some (0, 9) := by kernel_rfl
@[go_sem] theorem fieldT_132_1 : fieldT Tryz.prog 132 1 = some (1, 3) := by kernel_rfl
@[go_sem] theorem eqK_132 : eqK Tryz.prog 132 = some [.str, .int] := by kernel_rfl
@[go_sem] theorem placesT_132 : placesT Tryz.prog 132 = some [(0, 1), (1, 1)] := by kernel_rfl
@[go_sem] theorem sizeT_133 : sizeT Tryz.prog 133 = some 2 := by kernel_rfl
@[go_sem] theorem aggT_133 : aggT Tryz.prog 133 = some true := by kernel_rfl
@[go_sem] theorem bytesT_133 : bytesT Tryz.prog 133 = some 24 := by kernel_rfl
@[go_sem] theorem zeroT_133 : zeroT Tryz.prog 133 = some [AV.str ⟨#[]⟩, AV.int .i64 (0)] := by kernel_rfl
@[go_sem] theorem fieldT_133_0 : fieldT Tryz.prog 133 0 = some (0, 9) := by kernel_rfl
@[go_sem] theorem fieldT_133_1 : fieldT Tryz.prog 133 1 = some (1, 3) := by kernel_rfl
@[go_sem] theorem eqK_133 : eqK Tryz.prog 133 = some [.str, .int] := by kernel_rfl
@[go_sem] theorem placesT_133 : placesT Tryz.prog 133 = some [(0, 1), (1, 1)] := by kernel_rfl
@[go_sem] theorem sizeT_134 : sizeT Tryz.prog 134 = some 1 := by kernel_rfl
@[go_sem] theorem aggT_134 : aggT Tryz.prog 134 = some false := by kernel_rfl
@[go_sem] theorem bytesT_134 : bytesT Tryz.prog 134 = some 24 := by kernel_rfl
@[go_sem] theorem zeroT_134 : zeroT Tryz.prog 134 = some [AV.nils] := by kernel_rfl
@[go_sem] theorem elemT_134 : elemT Tryz.prog 134 = some 133 := by kernel_rfl
@[go_sem] theorem isBytesT_134 : isBytesT Tryz.prog 134 = false := by kernel_rfl
@[go_sem] theorem sizeT_135 : sizeT Tryz.prog 135 = some 8 := by kernel_rfl
@[go_sem] theorem aggT_135 : aggT Tryz.prog 135 = some true := by kernel_rfl
@[go_sem] theorem bytesT_135 : bytesT Tryz.prog 135 = some 112 := by kernel_rfl
@[go_sem] theorem zeroT_135 : zeroT Tryz.prog 135 = some [AV.str ⟨#[]⟩, AV.str ⟨#[]⟩, AV.int .i64 (0), AV.str ⟨#[]⟩, AV.nils, AV.str ⟨#[]⟩, AV.int .i64 (0), AV.bool false] := by kernel_rfl
@[go_sem] theorem fieldT_135_0 : fieldT Tryz.prog 135 0 = some (0, 131) := by kernel_rfl
@[go_sem] theorem fieldT_135_1 : fieldT Tryz.prog 135 1 = some (3, 9) := by kernel_rfl
@[go_sem] theorem fieldT_135_2 : fieldT Tryz.prog 135 2 = some (4, 134) := by kernel_rfl
@[go_sem] theorem fieldT_135_3 : fieldT Tryz.prog 135 3 = some (5, 9) := by kernel_rfl
@[go_sem] theorem fieldT_135_4 : fieldT Tryz.prog 135 4 = some (6, 3) := by kernel_rfl
@[go_sem] theorem fieldT_135_5 : fieldT Tryz.prog 135 5 = some (7, 4) := by kernel_rfl
@[go_sem] theorem placesT_135 : placesT Tryz.prog 135 = some [(0, 3), (3, 1), (4, 1), (5, 1), (6, 1), (7, 1)] := by kernel_rfl
@[go_sem] theorem sizeT_136 : sizeT Tryz.prog 136 = some 8 := by kernel_rfl
@[go_sem] theorem aggT_136 : aggT Tryz.prog 136 = some true := by kernel_rfl
@[go_sem] theorem bytesT_136 : bytesT Tryz.prog 136 = some 112 := by kernel_rfl
@[go_sem] theorem zeroT_136 : zeroT Tryz.prog 136 = some [AV.str ⟨#[]⟩, AV.str ⟨#[]⟩, AV.int .i64 (0), AV.str ⟨#[]⟩, AV.nils, AV.str ⟨#[]⟩, AV.int .i64 (0), AV.bool false] := by kernel_rfl
@[go_sem] theorem fieldT_136_0 : fieldT Tryz.prog 136 0 = some (0, 131) := by kernel_rfl
@[go_sem] theorem fieldT_136_1 : fieldT Tryz.prog 136 1 = some (3, 9) := by kernel_rfl
@[go_sem] theorem fieldT_136_2 : fieldT Tryz.prog 136 2 = some (4, 134) := by kernel_rfl
@[go_sem] theorem fieldT_136_3 : fieldT Tryz.prog 136 3 = some (5, 9) := by kernel_rfl
@[go_sem] theorem fieldT_136_4 : fieldT Tryz.prog 136 4 = some (6, 3) := by kernel_rfl
@[go_sem] theorem fieldT_136_5 : fieldT Tryz.prog 136 5 = some (7, 4) := by kernel_rfl
@[go_sem] theorem placesT_136 : placesT Tryz.prog 136 = some [(0, 3), (3, 1), (4, 1), (5, 1), (6, 1), (7, 1)] := by kernel_rfl
@[go_sem] theorem sizeT_137 : sizeT Tryz.prog 137 = some 1 := by kernel_rfl
@[go_sem] theorem aggT_137 : aggT Tryz.prog 137 = some false := by kernel_rfl
@[go_sem] theorem bytesT_137 : bytesT Tryz.prog 137 = some 8 := by kernel_rfl
@[go_sem] theorem zeroT_137 : zeroT Tryz.prog 137 = some [AV.any] := by kernel_rfl
@[go_sem] theorem sizeT_138 : sizeT Tryz.prog 138 = some 4 := by kernel_rfl
@[go_sem] theorem aggT_138 : aggT Tryz.prog 138 = some true := by kernel_rfl
@[go_sem] theorem bytesT_138 : bytesT Tryz.prog 138 = some 64 := by kernel_rfl
@[go_sem] theorem zeroT_138 : zeroT Tryz.prog 138 = some [AV.str ⟨#[]⟩, AV.str ⟨#[]⟩, AV.nils, AV.int .i64 (0)] := by kernel_rfl
@[go_sem] theorem fieldT_138_0 : fieldT Tryz.prog 138 0 = some (0, 9) := by kernel_rfl
@[go_sem] theorem fieldT_138_1 : fieldT Tryz.prog 138 1 = some (1, 9) := by kernel_rfl
@[go_sem] theorem fieldT_138_2 : fieldT Tryz.prog 138 2 = some (2, 134) := by kernel_rfl
@[go_sem] theorem fieldT_138_3 : fieldT Tryz.prog 138 3 = some (3, 3) := by kernel_rfl
@[go_sem] theorem placesT_138 : placesT Tryz.prog 138 = some [(0, 1), (1, 1), (2, 1), (3, 1)] := by kernel_rfl
@[go_sem] theorem sizeT_139 : sizeT Tryz.prog 139 = some 4 := by kernel_rfl
@[go_sem] theorem aggT_139 : aggT Tryz.prog 139 = some true := by kernel_rfl
@[go_sem] theorem bytesT_139 : bytesT Tryz.prog 139 = some 64 := by kernel_rfl
@[go_sem] theorem zeroT_139 : zeroT Tryz.prog 139 = some [AV.str ⟨#[]⟩, AV.str ⟨#[]⟩, AV.nils, AV.int .i64 (0)] := by kernel_rfl
@[go_sem] theorem fieldT_139_0 : fieldT Tryz.prog 139 0 = some (0, 9) := by kernel_rfl
@[go_sem] theorem fieldT_139_1 : fieldT Tryz.prog 139 1 = some (1, 9) := by kernel_rfl
@[go_sem] theorem fieldT_139_2 : fieldT Tryz.prog 139 2 = some (2, 134) := by kernel_rfl
@[go_sem] theorem fieldT_139_3 : fieldT Tryz.prog 139 3 = some (3, 3) := by kernel_rfl
@[go_sem] theorem placesT_139 : placesT Tryz.prog 139 = some [(0, 1), (1, 1), (2, 1), (3, 1)] := by kernel_rfl
@[go_sem] theorem sizeT_140 : sizeT Tryz.prog 140 = some 1 := by kernel_rfl
@[go_sem] theorem aggT_140 : aggT Tryz.prog 140 = some false := by kernel_rfl
@[go_sem] theorem bytesT_140 : bytesT Tryz.prog 140 = some 8 := by kernel_rfl
@[go_sem] theorem zeroT_140 : zeroT Tryz.prog 140 = some [AV.any] := by kernel_rfl
@[go_sem] theorem sizeT_141 : sizeT Tryz.prog 141 = some 1 := by kernel_rfl
@[go_sem] theorem aggT_141 : aggT Tryz.prog 141 = some false := by kernel_rfl
@[go_sem] theorem bytesT_141 : bytesT Tryz.prog 141 = some 8 := by kernel_rfl
@[go_sem] theorem zeroT_141 : zeroT Tryz.prog 141 = some [AV.any] := by kernel_rfl
@[go_sem] theorem sizeT_142 : sizeT Tryz.prog 142 = some 5 := by kernel_rfl
@[go_sem] theorem aggT_142 : aggT Tryz.prog 142 = some true := by kernel_rfl
@[go_sem] theorem bytesT_142 : bytesT Tryz.prog 142 = some 120 := by kernel_rfl
@[go_sem] theorem zeroT_142 : zeroT Tryz.prog 142 = some [AV.nils, AV.nils, AV.nils, AV.nils, AV.nils] := by kernel_rfl
@[go_sem] theorem fieldT_142_0 : fieldT Tryz.prog 142 0 = some (0, 29) := by kernel_rfl
@[go_sem] theorem fieldT_142_1 : fieldT Tryz.prog 142 1 = some (4, 55) := by kernel_rfl
@[go_sem] theorem placesT_142 : placesT Tryz.prog 142 = some [(0, 4), (4, 1)] := by kernel_rfl
@[go_sem] theorem sizeT_143 : sizeT Tryz.prog 143 = some 5 := by kernel_rfl
@[go_sem] theorem aggT_143 : aggT Tryz.prog 143 = some true := by kernel_rfl
@[go_sem] theorem bytesT_143 : bytesT Tryz.prog 143 = some 120 := by kernel_rfl
@[go_sem] theorem zeroT_143 : zeroT Tryz.prog 143 = some [AV.nils, AV.nils, AV.nils, AV.nils, AV.nils] := by kernel_rfl
@[go_sem] theorem fieldT_143_0 : fieldT Tryz.prog 143 0 = some (0, 29) := by kernel_rfl
@[go_sem] theorem fieldT_143_1 : fieldT Tryz.prog 143 1 = some (4, 55) := by kernel_rfl
@[go_sem] theorem placesT_143 : placesT Tryz.prog 143 = some [(0, 4), (4, 1)] := by kernel_rfl
@[go_sem] theorem sizeT_144 : sizeT Tryz.prog 144 = some 1 := by kernel_rfl
@[go_sem] theorem aggT_144 : aggT Tryz.prog 144 = some false := by kernel_rfl
@[go_sem] theorem bytesT_144 : bytesT Tryz.prog 144 = some 8 := by kernel_rfl
@[go_sem] theorem zeroT_144 : zeroT Tryz.prog 144 = some [AV.any] := by kernel_rfl
@[go_sem] theorem sizeT_145 : sizeT Tryz.prog 145 = some 1 := by kernel_rfl
@[go_sem] theorem aggT_145 : aggT Tryz.prog 145 = some false := by kernel_rfl
@[go_sem] theorem bytesT_145 : bytesT Tryz.prog 145 = some 8 := by kernel_rfl
@[go_sem] theorem zeroT_145 : zeroT Tryz.prog 145 = some [AV.any] := by kernel_rfl
@[go_sem] theorem sizeT_146 : sizeT Tryz.prog 146 = some 1 := by kernel_rfl
@[go_sem] theorem aggT_146 : aggT Tryz.prog 146 = some false := by kernel_rfl
@[go_sem] theorem bytesT_146 : bytesT Tryz.prog 146 = some 8 := by kernel_rfl
@[go_sem] theorem zeroT_146 : zeroT Tryz.prog 146 = some [AV.any] := by kernel_rfl
@[go_sem] theorem sizeT_147 : sizeT Tryz.prog 147 = some 1 := by kernel_rfl
@[go_sem] theorem aggT_147 : aggT Tryz.prog 147 = some false := by kernel_rfl
@[go_sem] theorem bytesT_147 : bytesT Tryz.prog 147 = some 8 := by kernel_rfl
@[go_sem] theorem zeroT_147 : zeroT Tryz.prog 147 = some [AV.any] := by kernel_rfl
@[go_sem] theorem sizeT_148 : sizeT Tryz.prog 148 = some 1 := by kernel_rfl
@[go_sem] theorem aggT_148 : aggT Tryz.prog 148 = some false := by kernel_rfl
@[go_sem] theorem bytesT_148 : bytesT Tryz.prog 148 = some 8 := by kernel_rfl
@[go_sem] theorem zeroT_148 : zeroT Tryz.prog 148 = some [AV.any] := by kernel_rfl
@[go_sem] theorem sizeT_149 : sizeT Tryz.prog 149 = some 1 := by kernel_rfl
@[go_sem] theorem aggT_149 : aggT Tryz.prog 149 = some false := by kernel_rfl
@[go_sem] theorem bytesT_149 : bytesT Tryz.prog 149 = some 8 := by kernel_rfl
@[go_sem] theorem zeroT_149 : zeroT Tryz.prog 149 = some [AV.any] := by kernel_rfl
@[go_sem] theorem sizeT_150 : sizeT Tryz.prog 150 = some 1 := by kernel_rfl
@[go_sem] theorem aggT_150 : aggT Tryz.prog 150 = some false := by kernel_rfl
@[go_sem] theorem bytesT_150 : bytesT Tryz.prog 150 = some 8 := by kernel_rfl
@[go_sem] theorem zeroT_150 : zeroT Tryz.prog 150 = some [AV.any] := by kernel_rfl
@[go_sem] theorem sizeT_152 : sizeT Tryz.prog 152 = some 1 := by kernel_rfl
@[go_sem] theorem aggT_152 : aggT Tryz.prog 152 = some false := by kernel_rfl
@[go_sem] theorem bytesT_152 : bytesT Tryz.prog 152 = some 8 := by kernel_rfl
@[go_sem] theorem zeroT_152 : zeroT Tryz.prog 152 = some [AV.any] := by kernel_rfl
@[go_sem] theorem sizeT_153 : sizeT Tryz.prog 153 = some 1 := by kernel_rfl
@[go_sem] theorem aggT_153 : aggT Tryz.prog 153 = some false := by kernel_rfl
@[go_sem] theorem bytesT_153 : bytesT Tryz.prog 153 = some 8 := by kernel_rfl
@[go_sem] theorem zeroT_153 : zeroT Tryz.prog 153 = some [AV.any] := by kernel_rfl
@[go_sem] theorem sizeT_154 : sizeT Tryz.prog 154 = some 1 := by kernel_rfl
@[go_sem] theorem aggT_154 : aggT Tryz.prog 154 = some false := by kernel_rfl
@[go_sem] theorem bytesT_154 : bytesT Tryz.prog 154 = some 8 := by kernel_rfl
@[go_sem] theorem zeroT_154 : zeroT Tryz.prog 154 = some [AV.any] := by kernel_rfl
@[go_sem] theorem sizeT_155 : sizeT Tryz.prog 155 = some 1 := by kernel_rfl
@[go_sem] theorem aggT_155 : aggT Tryz.prog 155 = some false := by kernel_rfl
@[go_sem] theorem bytesT_155 : bytesT Tryz.prog 155 = some 8 := by kernel_rfl
@[go_sem] theorem zeroT_155 : zeroT Tryz.prog 155 = some [AV.any] := by kernel_rfl
@[go_sem] theorem sizeT_156 : sizeT Tryz.prog 156 = some 1 := by kernel_rfl
@[go_sem] theorem aggT_156 : aggT Tryz.prog 156 = some false := by kernel_rfl
@[go_sem] theorem bytesT_156 : bytesT Tryz.prog 156 = some 8 := by kernel_rfl
@[go_sem] theorem zeroT_156 : zeroT Tryz.prog 156 = some [AV.any] := by kernel_rfl
@[go_sem] theorem sizeT_157 : sizeT Tryz.prog 157 = some 1 := by kernel_rfl
@[go_sem] theorem aggT_157 : aggT Tryz.prog 157 = some false := by kernel_rfl
@[go_sem] theorem bytesT_157 : bytesT Tryz.prog 157 = some 8 := by kernel_rfl
@[go_sem] theorem zeroT_157 : zeroT Tryz.prog 157 = some [AV.any] := by kernel_rfl
@[go_sem] theorem sizeT_158 : sizeT Tryz.prog 158 = some 1 := by kernel_rfl
@[go_sem] theorem aggT_158 : aggT Tryz.prog 158 = some false := by kernel_rfl
@[go_sem] theorem bytesT_158 : bytesT Tryz.prog 158 = some 8 := by kernel_rfl
@[go_sem] theorem zeroT_158 : zeroT Tryz.prog 158 = some [AV.any] := by kernel_rfl
@[go_sem] theorem sizeT_159 : sizeT Tryz.prog 159 = some 3 := by kernel_rfl
@[go_sem] theorem aggT_159 : aggT Tryz.prog 159 = some true := by kernel_rfl
@[go_sem] theorem bytesT_159 : bytesT Tryz.prog 159 = some 24 := by kernel_rfl
@[go_sem] theorem zeroT_159 : zeroT Tryz.prog 159 = some [AV.int .i64 (0), AV.int .i64 (0), AV.int .i64 (0)] := by kernel_rfl
@[go_sem] theorem fieldT_159_0 : fieldT Tryz.prog 159 0 = some (0, 3) := by kernel_rfl
@[go_sem] theorem fieldT_159_1 : fieldT Tryz.prog 159 1 = some (1, 3) := by kernel_rfl
@[go_sem] theorem fieldT_159_2 : fieldT Tryz.prog 159 2 = some (2, 3) := by kernel_rfl
@[go_sem] theorem eqK_159 : eqK Tryz.prog 159 = some [.int, .int, .int] := by kernel_rfl
@[go_sem] theorem placesT_159 : placesT Tryz.prog 159 = some [(0, 1), (1, 1), (2, 1)] := by kernel_rfl
@[go_sem] theorem sizeT_160 : sizeT Tryz.prog 160 = some 3 := by kernel_rfl
@[go_sem] theorem aggT_160 : aggT Tryz.prog 160 = some true := by kernel_rfl
@[go_sem] theorem bytesT_160 : bytesT Tryz.prog 160 = some 24 := by kernel_rfl
@[go_sem] theorem zeroT_160 : zeroT Tryz.prog 160 = some [AV.int .i64 (0), AV.int .i64 (0), AV.int .i64 (0)] := by kernel_rfl
@[go_sem] theorem fieldT_160_0 : fieldT Tryz.prog 160 0 = some (0, 3) := by kernel_rfl
@[go_sem] theorem fieldT_160_1 : fieldT Tryz.prog 160 1 = some (1, 3) := by kernel_rfl
@[go_sem] theorem fieldT_160_2 : fieldT Tryz.prog 160 2 = some (2, 3) := by kernel_rfl
@[go_sem] theorem eqK_160 : eqK Tryz.prog 160 = some [.int, .int, .int] := by kernel_rfl
@[go_sem] theorem placesT_160 : placesT Tryz.prog 160 = some [(0, 1), (1, 1), (2, 1)] := by kernel_rfl
@[go_sem] theorem sizeT_161 : sizeT Tryz.prog 161 = some 1 := by kernel_rfl
@[go_sem] theorem aggT_161 : aggT Tryz.prog 161 = some false := by kernel_rfl
@[go_sem] theorem bytesT_161 : bytesT Tryz.prog 161 = some 8 := by kernel_rfl
@[go_sem] theorem zeroT_161 : zeroT Tryz.prog 161 = some [AV.any] := by kernel_rfl
@[go_sem] theorem sizeT_162 : sizeT Tryz.prog 162 = some 1 := by kernel_rfl
@[go_sem] theorem aggT_162 : aggT Tryz.prog 162 = some false := by kernel_rfl
@[go_sem] theorem bytesT_162 : bytesT Tryz.prog 162 = some 8 := by kernel_rfl
@[go_sem] theorem zeroT_162 : zeroT Tryz.prog 162 = some [AV.any] := by kernel_rfl
@[go_sem] theorem sizeT_163 : sizeT Tryz.prog 163 = some 1 := by kernel_rfl
@[go_sem] theorem aggT_163 : aggT Tryz.prog 163 = some false := by kernel_rfl
@[go_sem] theorem bytesT_163 : bytesT Tryz.prog 163 = some 8 := by kernel_rfl
@[go_sem] theorem zeroT_163 : zeroT Tryz.prog 163 = some [AV.any] := by kernel_rfl
@[go_sem] theorem sizeT_164 : sizeT Tryz.prog 164 = some 1 := by kernel_rfl
@[go_sem] theorem aggT_164 : aggT Tryz.prog 164 = some false := by kernel_rfl
@[go_sem] theorem bytesT_164 : bytesT Tryz.prog 164 = some 8 := by kernel_rfl
@[go_sem] theorem zeroT_164 : zeroT Tryz.prog 164 = some [AV.any] := by kernel_rfl
@[go_sem] theorem sizeT_165 : sizeT Tryz.prog 165 = some 1 := by kernel_rfl
@[go_sem] theorem aggT_165 : aggT Tryz.prog 165 = some false := by kernel_rfl
@[go_sem] theorem bytesT_165 : bytesT Tryz.prog 165 = some 24 := by kernel_rfl
@[go_sem] theorem zeroT_165 : zeroT Tryz.prog 165 = some [AV.nils] := by kernel_rfl
@[go_sem] theorem elemT_165 : elemT Tryz.prog 165 = some 33 := by kernel_rfl
@[go_sem] theorem isBytesT_165 : isBytesT Tryz.prog 165 = false := by kernel_rfl
@[go_sem] theorem sizeT_166 : sizeT Tryz.prog 166 = some 1 := by kernel_rfl
@[go_sem] theorem aggT_166 : aggT Tryz.prog 166 = some false := by kernel_rfl
@[go_sem] theorem bytesT_166 : bytesT Tryz.prog 166 = some 8 := by kernel_rfl
@[go_sem] theorem zeroT_166 : zeroT Tryz.prog 166 = some [AV.any] := by kernel_rfl
@[go_sem] theorem sizeT_167 : sizeT Tryz.prog 167 = some 1 := by kernel_rfl
@[go_sem] theorem aggT_167 : aggT Tryz.prog 167 = some false := by kernel_rfl
@[go_sem] theorem bytesT_167 : bytesT Tryz.prog 167 = some 8 := by kernel_rfl
@[go_sem] theorem zeroT_167 : zeroT Tryz.prog 167 = some [AV.any] := by kernel_rfl
@[go_sem] theorem sizeT_168 : sizeT Tryz.prog 168 = some 1 := by kernel_rfl
@[go_sem] theorem aggT_168 : aggT Tryz.prog 168 = some false := by kernel_rfl
@[go_sem] theorem bytesT_168 : bytesT Tryz.prog 168 = some 8 := by kernel_rfl
@[go_sem] theorem zeroT_168 : zeroT Tryz.prog 168 = some [AV.any] := by kernel_rfl
@[go_sem] theorem sizeT_169 : sizeT Tryz.prog 169 = some 1 := by kernel_rfl
@[go_sem] theorem aggT_169 : aggT Tryz.prog 169 = some false := by kernel_rfl
@[go_sem] theorem bytesT_169 : bytesT Tryz.prog 169 = some 8 := by kernel_rfl
@[go_sem] theorem zeroT_169 : zeroT Tryz.prog 169 = some [AV.any] := by kernel_rfl
@[go_sem] theorem sizeT_170 : sizeT Tryz.prog 170 = some 1 := by kernel_rfl
@[go_sem] theorem aggT_170 : aggT Tryz.prog 170 = some false := by kernel_rfl
@[go_sem] theorem bytesT_170 : bytesT Tryz.prog 170 = some 8 := by kernel_rfl
@[go_sem] theorem zeroT_170 : zeroT Tryz.prog 170 = some [AV.any] := by kernel_rfl
@[go_sem] theorem sizeT_171 : sizeT Tryz.prog 171 = some 1 := by kernel_rfl
@[go_sem] theorem aggT_171 : aggT Tryz.prog 171 = some false := by kernel_rfl
@[go_sem] theorem bytesT_171 : bytesT Tryz.prog 171 = some 8 := by kernel_rfl
@[go_sem] theorem zeroT_171 : zeroT Tryz.prog 171 = some [AV.any] := by kernel_rfl
@[go_sem] theorem sizeT_172 : sizeT Tryz.prog 172 = some 1 := by kernel_rfl
@[go_sem] theorem aggT_172 : aggT Tryz.prog 172 = some false := by kernel_rfl
@[go_sem] theorem bytesT_172 : bytesT Tryz.prog 172 = some 8 := by kernel_rfl
@[go_sem] theorem zeroT_172 : zeroT Tryz.prog 172 = some [AV.any] := by kernel_rfl
@[go_sem] theorem sizeT_174 : sizeT Tryz.prog 174 = some 1 := by kernel_rfl
@[go_sem] theorem aggT_174 : aggT Tryz.prog 174 = some false := by kernel_rfl
@[go_sem] theorem bytesT_174 : bytesT Tryz.prog 174 = some 8 := by kernel_rfl
@[go_sem] theorem zeroT_174 : zeroT Tryz.prog 174 = some [AV.any] := by kernel_rfl
@[go_sem] theorem sizeT_175 : sizeT Tryz.prog 175 = some 1 := by kernel_rfl
@[go_sem] theorem aggT_175 : aggT Tryz.prog 175 = some false := by kernel_rfl
@[go_sem] theorem bytesT_175 : bytesT Tryz.prog 175 = some 24 := by kernel_rfl
@[go_sem] theorem zeroT_175 : zeroT Tryz.prog 175 = some [AV.nils] := by kernel_rfl
@[go_sem] theorem elemT_175 : elemT Tryz.prog 175 = some 121 := by kernel_rfl
@[go_sem] theorem isBytesT_175 : isBytesT Tryz.prog 175 = false := by kernel_rfl
@[go_sem] theorem sizeT_176 : sizeT Tryz.prog 176 = some 1 := by kernel_rfl
@[go_sem] theorem aggT_176 : aggT Tryz.prog 176 = some false := by kernel_rfl
@[go_sem] theorem bytesT_176 : bytesT Tryz.prog 176 = some 8 := by kernel_rfl
@[go_sem] theorem zeroT_176 : zeroT Tryz.prog 176 = some [AV.any] := by kernel_rfl
@[go_sem] theorem sizeT_177 : sizeT Tryz.prog 177 = some 1 := by kernel_rfl
@[go_sem] theorem aggT_177 : aggT Tryz.prog 177 = some false := by kernel_rfl
@[go_sem] theorem bytesT_177 : bytesT Tryz.prog 177 = some 8 := by kernel_rfl
@[go_sem] theorem zeroT_177 : zeroT Tryz.prog 177 = some [AV.any] := by kernel_rfl
@[go_sem] theorem sizeT_178 : sizeT Tryz.prog 178 = some 1 := by kernel_rfl
@[go_sem] theorem aggT_178 : aggT Tryz.prog 178 = some false := by kernel_rfl
@[go_sem] theorem bytesT_178 : bytesT Tryz.prog 178 = some 8 := by kernel_rfl
@[go_sem] theorem zeroT_178 : zeroT Tryz.prog 178 = some [AV.any] := by kernel_rfl
@[go_sem] theorem sizeT_179 : sizeT Tryz.prog 179 = some 1 := by kernel_rfl
@[go_sem] theorem aggT_179 : aggT Tryz.prog 179 = some false := by kernel_rfl
@[go_sem] theorem bytesT_179 : bytesT Tryz.prog 179 = some 8 := by kernel_rfl
@[go_sem] theorem zeroT_179 : zeroT Tryz.prog 179 = some [AV.any] := by kernel_rfl
@[go_sem] theorem sizeT_181 : sizeT Tryz.prog 181 = some 1 := by kernel_rfl
@[go_sem] theorem aggT_181 : aggT Tryz.prog 181 = some false := by kernel_rfl
@[go_sem] theorem bytesT_181 : bytesT Tryz.prog 181 = some 8 := by kernel_rfl
@[go_sem] theorem zeroT_181 : zeroT Tryz.prog 181 = some [AV.any] := by kernel_rfl
@[go_sem] theorem sizeT_182 : sizeT Tryz.prog 182 = some 1 := by kernel_rfl
@[go_sem] theorem aggT_182 : aggT Tryz.prog 182 = some false := by kernel_rfl
@[go_sem] theorem bytesT_182 : bytesT Tryz.prog 182 = some 8 := by kernel_rfl
@[go_sem] theorem zeroT_182 : zeroT Tryz.prog 182 = some [AV.any] := by kernel_rfl
@[go_sem] theorem sizeT_183 : sizeT Tryz.prog 183 = some 1 := by kernel_rfl
@[go_sem] theorem aggT_183 : aggT Tryz.prog 183 = some false := by kernel_rfl
@[go_sem] theorem bytesT_183 : bytesT Tryz.prog 183 = some 8 := by kernel_rfl
@[go_sem] theorem zeroT_183 : zeroT Tryz.prog 183 = some [AV.any] := by kernel_rfl
@[go_sem] theorem sizeT_184 : sizeT Tryz.prog 184 = some 1 := by kernel_rfl
@[go_sem] theorem aggT_184 : aggT Tryz.prog 184 = some false := by kernel_rfl
@[go_sem] theorem bytesT_184 : bytesT Tryz.prog 184 = some 8 := by kernel_rfl
@[go_sem] theorem zeroT_184 : zeroT Tryz.prog 184 = some [AV.any] := by kernel_rfl
@[go_sem] theorem sizeT_185 : sizeT Tryz.prog 185 = some 1 := by kernel_rfl
@[go_sem] theorem aggT_185 : aggT Tryz.prog 185 = some false := by kernel_rfl
@[go_sem] theorem bytesT_185 : bytesT Tryz.prog 185 = some 8 := by kernel_rfl
@[go_sem] theorem zeroT_185 : zeroT Tryz.prog 185 = some [AV.any] := by kernel_rfl
@[go_sem] theorem sizeT_186 : sizeT Tryz.prog 186 = some 1 := by kernel_rfl
@[go_sem] theorem aggT_186 : aggT Tryz.prog 186 = some false := by kernel_rfl
@[go_sem] theorem bytesT_186 : bytesT Tryz.prog 186 = some 8 := by kernel_rfl
@[go_sem] theorem zeroT_186 : zeroT Tryz.prog 186 = some [AV.any] := by kernel_rfl
@[go_sem] theorem sizeT_187 : sizeT Tryz.prog 187 = some 1 := by kernel_rfl
@[go_sem] theorem aggT_187 : aggT Tryz.prog 187 = some false := by kernel_rfl
@[go_sem] theorem bytesT_187 : bytesT Tryz.prog 187 = some 8 := by kernel_rfl
@[go_sem] theorem zeroT_187 : zeroT Tryz.prog 187 = some [AV.any] := by kernel_rfl
@[go_sem] theorem sizeT_188 : sizeT Tryz.prog 188 = some 1 := by kernel_rfl
@[go_sem] theorem aggT_188 : aggT Tryz.prog 188 = some false := by kernel_rfl
@[go_sem] theorem bytesT_188 : bytesT Tryz.prog 188 = some 8 := by kernel_rfl
@[go_sem] theorem zeroT_188 : zeroT Tryz.prog 188 = some [AV.any] := by kernel_rfl
@[go_sem] theorem sizeT_189 : sizeT Tryz.prog 189 = some 1 := by kernel_rfl
@[go_sem] theorem aggT_189 : aggT Tryz.prog 189 = some false := by kernel_rfl
@[go_sem] theorem bytesT_189 : bytesT Tryz.prog 189 = some 8 := by kernel_rfl
@[go_sem] theorem zeroT_189 : zeroT Tryz.prog 189 = some [AV.any] := by kernel_rfl
@[go_sem] theorem sizeT_190 : sizeT Tryz.prog 190 = some 1 := by kernel_rfl
@[go_sem] theorem aggT_190 : aggT Tryz.prog 190 = some false := by kernel_rfl
@[go_sem] theorem bytesT_190 : bytesT Tryz.prog 190 = some 8 := by kernel_rfl
@[go_sem] theorem zeroT_190 : zeroT Tryz.prog 190 = some [AV.any] := by kernel_rfl
@[go_sem] theorem sizeT_191 : sizeT Tryz.prog 191 = some 1 := by kernel_rfl
@[go_sem] theorem aggT_191 : aggT Tryz.prog 191 = some false := by kernel_rfl
@[go_sem] theorem bytesT_191 : bytesT Tryz.prog 191 = some 8 := by kernel_rfl
@[go_sem] theorem zeroT_191 : zeroT Tryz.prog 191 = some [AV.any] := by kernel_rfl
@[go_sem] theorem sizeT_192 : sizeT Tryz.prog 192 = some 1 := by kernel_rfl
@[go_sem] theorem aggT_192 : aggT Tryz.prog 192 = some false := by kernel_rfl
@[go_sem] theorem bytesT_192 : bytesT Tryz.prog 192 = some 8 := by kernel_rfl
@[go_sem] theorem zeroT_192 : zeroT Tryz.prog 192 = some [AV.any] := by kernel_rfl
@[go_sem] theorem sizeT_193 : sizeT Tryz.prog 193 = some 1 := by kernel_rfl
@[go_sem] theorem aggT_193 : aggT Tryz.prog 193 = some false := by kernel_rfl
@[go_sem] theorem bytesT_193 : bytesT Tryz.prog 193 = some 8 := by kernel_rfl
@[go_sem] theorem zeroT_193 : zeroT Tryz.prog 193 = some [AV.any] := by kernel_rfl
@[go_sem] theorem sizeT_194 : sizeT Tryz.prog 194 = some 1 := by kernel_rfl
@[go_sem] theorem aggT_194 : aggT Tryz.prog 194 = some false := by kernel_rfl
@[go_sem] theorem bytesT_194 : bytesT Tryz.prog 194 = some 8 := by kernel_rfl
@[go_sem] theorem zeroT_194 : zeroT Tryz.prog 194 = some [AV.any] := by kernel_rfl
@[go_sem] theorem sizeT_195 : sizeT Tryz.prog 195 = some 1 := by kernel_rfl
@[go_sem] theorem aggT_195 : aggT Tryz.prog 195 = some false := by kernel_rfl
@[go_sem] theorem bytesT_195 : bytesT Tryz.prog 195 = some 8 := by kernel_rfl
@[go_sem] theorem zeroT_195 : zeroT Tryz.prog 195 = some [AV.any] := by kernel_rfl
@[go_sem] theorem sizeT_196 : sizeT Tryz.prog 196 = some 1 := by kernel_rfl
@[go_sem] theorem aggT_196 : aggT Tryz.prog 196 = some false := by kernel_rfl
@[go_sem] theorem bytesT_196 : bytesT Tryz.prog 196 = some 8 := by kernel_rfl
@[go_sem] theorem zeroT_196 : zeroT Tryz.prog 196 = some [AV.any] := by kernel_rfl
@[go_sem] theorem sizeT_197 : sizeT Tryz.prog 197 = some 1 := by kernel_rfl
@[go_sem] theorem aggT_197 : aggT Tryz.prog 197 = some false := by kernel_rfl
@[go_sem] theorem bytesT_197 : bytesT Tryz.prog 197 = some 8 := by kernel_rfl
@[go_sem] theorem zeroT_197 : zeroT Tryz.prog 197 = some [AV.any] := by kernel_rfl
@[go_sem] theorem sizeT_198 : sizeT Tryz.prog 198 = some 1 := by kernel_rfl
@[go_sem] theorem aggT_198 : aggT Tryz.prog 198 = some false := by kernel_rfl
@[go_sem] theorem bytesT_198 : bytesT Tryz.prog 198 = some 8 := by kernel_rfl
@[go_sem] theorem zeroT_198 : zeroT Tryz.prog 198 = some [AV.any] := by kernel_rfl
@[go_sem] theorem sizeT_199 : sizeT Tryz.prog 199 = some 1 := by kernel_rfl
@[go_sem] theorem aggT_199 : aggT Tryz.prog 199 = some false := by kernel_rfl
@[go_sem] theorem bytesT_199 : bytesT Tryz.prog 199 = some 8 := by kernel_rfl
@[go_sem] theorem zeroT_199 : zeroT Tryz.prog 199 = some [AV.any] := by kernel_rfl
@[go_sem] theorem sizeT_200 : sizeT Tryz.prog 200 = some 1 := by kernel_rfl
@[go_sem] theorem aggT_200 : aggT Tryz.prog 200 = some false := by kernel_rfl
@[go_sem] theorem bytesT_200 : bytesT Tryz.prog 200 = some 8 := by kernel_rfl
@[go_sem] theorem zeroT_200 : zeroT Tryz.prog 200 = some [AV.any] := by kernel_rfl
@[go_sem] theorem sizeT_201 : sizeT Tryz.prog 201 = some 1 := by kernel_rfl
@[go_sem] theorem aggT_201 : aggT Tryz.prog 201 = some false := by kernel_rfl
@[go_sem] theorem bytesT_201 : bytesT Tryz.prog 201 = some 8 := by kernel_rfl
@[go_sem] theorem zeroT_201 : zeroT Tryz.prog 201 = some [AV.any] := by kernel_rfl
@[go_sem] theorem sizeT_202 : sizeT Tryz.prog 202 = some 1 := by kernel_rfl
@[go_sem] theorem aggT_202 : aggT Tryz.prog 202 = some false := by kernel_rfl
@[go_sem] theorem bytesT_202 : bytesT Tryz.prog 202 = some 8 := by kernel_rfl
@[go_sem] theorem zeroT_202 : zeroT Tryz.prog 202 = some [AV.any] := by kernel_rfl
@[go_sem] theorem sizeT_203 : sizeT Tryz.prog 203 = some 1 := by kernel_rfl
@[go_sem] theorem aggT_203 : aggT Tryz.prog 203 = some false := by kernel_rfl
@[go_sem] theorem bytesT_203 : bytesT Tryz.prog 203 = some 8 := by kernel_rfl
@[go_sem] theorem zeroT_203 : zeroT Tryz.prog 203 = some [AV.any] := by kernel_rfl
@[go_sem] theorem sizeT_205 : sizeT Tryz.prog 205 = some 1 := by kernel_rfl
@[go_sem] theorem aggT_205 : aggT Tryz.prog 205 = some false := by kernel_rfl
@[go_sem] theorem bytesT_205 : bytesT Tryz.prog 205 = some 8 := by kernel_rfl
@[go_sem] theorem zeroT_205 : zeroT Tryz.prog 205 = some [AV.any] := by kernel_rfl
@[go_sem] theorem sizeT_206 : sizeT Tryz.prog 206 = some 1 := by kernel_rfl
@[go_sem] theorem aggT_206 : aggT Tryz.prog 206 = some false := by kernel_rfl
@[go_sem] theorem bytesT_206 : bytesT Tryz.prog 206 = some 8 := by kernel_rfl
@[go_sem] theorem zeroT_206 : zeroT Tryz.prog 206 = some [AV.any] := by kernel_rfl
@[go_sem] theorem sizeT_207 : sizeT Tryz.prog 207 = some 1 := by kernel_rfl
@[go_sem] theorem aggT_207 : aggT Tryz.prog 207 = some false := by kernel_rfl
@[go_sem] theorem bytesT_207 : bytesT Tryz.prog 207 = some 24 := by kernel_rfl
@[go_sem] theorem zeroT_207 : zeroT Tryz.prog 207 = some [AV.nils] := by kernel_rfl
@[go_sem] theorem elemT_207 : elemT Tryz.prog 207 = some 5 := by kernel_rfl
@[go_sem] theorem isBytesT_207 : isBytesT Tryz.prog 207 = true := by kernel_rfl
@[go_sem] theorem sizeT_208 : sizeT Tryz.prog 208 = some 1 := by kernel_rfl
@[go_sem] theorem aggT_208 : aggT Tryz.prog 208 = some false := by kernel_rfl
@[go_sem] theorem bytesT_208 : bytesT Tryz.prog 208 = some 8 := by kernel_rfl
@[go_sem] theorem zeroT_208 : zeroT Tryz.prog 208 = some [AV.any] := by kernel_rfl
@[go_sem] theorem sizeT_209 : sizeT Tryz.prog 209 = some 1 := by kernel_rfl
@[go_sem] theorem aggT_209 : aggT Tryz.prog 209 = some false := by kernel_rfl
@[go_sem] theorem bytesT_209 : bytesT Tryz.prog 209 = some 8 := by kernel_rfl
@[go_sem] theorem zeroT_209 : zeroT Tryz.prog 209 = some [AV.any] := by kernel_rfl
@[go_sem] theorem sizeT_210 : sizeT Tryz.prog 210 = some 1 := by kernel_rfl
@[go_sem] theorem aggT_210 : aggT Tryz.prog 210 = some false := by kernel_rfl
@[go_sem] theorem bytesT_210 : bytesT Tryz.prog 210 = some 8 := by kernel_rfl
@[go_sem] theorem zeroT_210 : zeroT Tryz.prog 210 = some [AV.any] := by kernel_rfl
@[go_sem] theorem sizeT_211 : sizeT Tryz.prog 211 = some 1 := by kernel_rfl
@[go_sem] theorem aggT_211 : aggT Tryz.prog 211 = some false := by kernel_rfl
@[go_sem] theorem bytesT_211 : bytesT Tryz.prog 211 = some 8 := by kernel_rfl
@[go_sem] theorem zeroT_211 : zeroT Tryz.prog 211 = some [AV.any] := by kernel_rfl
@[go_sem] theorem sizeT_212 : sizeT Tryz.prog 212 = some 1 := by kernel_rfl
@[go_sem] theorem aggT_212 : aggT Tryz.prog 212 = some false := by kernel_rfl
@[go_sem] theorem bytesT_212 : bytesT Tryz.prog 212 = some 8 := by kernel_rfl
@[go_sem] theorem zeroT_212 : zeroT Tryz.prog 212 = some [AV.any] := by kernel_rfl
@[go_sem] theorem sizeT_213 : sizeT Tryz.prog 213 = some 1 := by kernel_rfl
@[go_sem] theorem aggT_213 : aggT Tryz.prog 213 = some false := by kernel_rfl
@[go_sem] theorem bytesT_213 : bytesT Tryz.prog 213 = some 8 := by kernel_rfl
@[go_sem] theorem zeroT_213 : zeroT Tryz.prog 213 = some [AV.any] := by kernel_rfl
@[go_sem] theorem sizeT_214 : sizeT Tryz.prog 214 = some 1 := by kernel_rfl
@[go_sem] theorem aggT_214 : aggT Tryz.prog 214 = some false := by kernel_rfl
@[go_sem] theorem bytesT_214 : bytesT Tryz.prog 214 = some 8 := by kernel_rfl
@[go_sem] theorem zeroT_214 : zeroT Tryz.prog 214 = some [AV.any] := by kernel_rfl
@[go_sem] theorem sizeT_215 : sizeT Tryz.prog 215 = some 1 := by kernel_rfl
@[go_sem] theorem aggT_215 : aggT Tryz.prog 215 = some false := by kernel_rfl
@[go_sem] theorem bytesT_215 : bytesT Tryz.prog 215 = some 8 := by kernel_rfl
@[go_sem] theorem zeroT_215 : zeroT Tryz.prog 215 = some [AV.any] := by kernel_rfl
@[go_sem] theorem sizeT_216 : sizeT Tryz.prog 216 = some 1 := by kernel_rfl
@[go_sem] theorem aggT_216 : aggT Tryz.prog 216 = some false := by kernel_rfl
@[go_sem] theorem bytesT_216 : bytesT Tryz.prog 216 = some 8 := by kernel_rfl
@[go_sem] theorem zeroT_216 : zeroT Tryz.prog 216 = some [AV.int .u64 (0)] := by kernel_rfl
@[go_sem] theorem intT_216 : intT Tryz.prog 216 = some .u64 := by kernel_rfl
@[go_sem] theorem sizeT_217 : sizeT Tryz.prog 217 = some 1 := by kernel_rfl
@[go_sem] theorem aggT_217 : aggT Tryz.prog 217 = some false := by kernel_rfl
@[go_sem] theorem bytesT_217 : bytesT Tryz.prog 217 = some 8 := by kernel_rfl
@[go_sem] theorem zeroT_217 : zeroT Tryz.prog 217 = some [AV.any] := by kernel_rfl
@[go_sem] theorem sizeT_218 : sizeT Tryz.prog 218 = some 1 := by kernel_rfl
@[go_sem] theorem aggT_218 : aggT Tryz.prog 218 = some false := by kernel_rfl
@[go_sem] theorem bytesT_218 : bytesT Tryz.prog 218 = some 8 := by kernel_rfl
@[go_sem] theorem zeroT_218 : zeroT Tryz.prog 218 = some [AV.any] := by kernel_rfl
@[go_sem] theorem sizeT_219 : sizeT Tryz.prog 219 = some 1 := by kernel_rfl
@[go_sem] theorem aggT_219 : aggT Tryz.prog 219 = some false := by kernel_rfl
@[go_sem] theorem bytesT_219 : bytesT Tryz.prog 219 = some 8 := by kernel_rfl
@[go_sem] theorem zeroT_219 : zeroT Tryz.prog 219 = some [AV.any] := by kernel_rfl
@[go_sem] theorem sizeT_220 : sizeT Tryz.prog 220 = some 1 := by kernel_rfl
@[go_sem] theorem aggT_220 : aggT Tryz.prog 220 = some false := by kernel_rfl
@[go_sem] theorem bytesT_220 : bytesT Tryz.prog 220 = some 8 := by kernel_rfl
@[go_sem] theorem zeroT_220 : zeroT Tryz.prog 220 = some [AV.any] := by kernel_rfl
@[go_sem] theorem sizeT_221 : sizeT Tryz.prog 221 = some 1 := by kernel_rfl
@[go_sem] theorem aggT_221 : aggT Tryz.prog 221 = some false := by kernel_rfl
@[go_sem] theorem bytesT_221 : bytesT Tryz.prog 221 = some 8 := by kernel_rfl
@[go_sem] theorem zeroT_221 : zeroT Tryz.prog 221 = some [AV.any] := by kernel_rfl
@[go_sem] theorem sizeT_222 : sizeT Tryz.prog 222 = some 1 := by kernel_rfl
@[go_sem] theorem aggT_222 : aggT Tryz.prog 222 = some false := by kernel_rfl
@[go_sem] theorem bytesT_222 : bytesT Tryz.prog 222 = some 8 := by kernel_rfl
@[go_sem] theorem zeroT_222 : zeroT Tryz.prog 222 = some [AV.any] := by kernel_rfl
@[go_sem] theorem sizeT_223 : sizeT Tryz.prog 223 = some 1 := by kernel_rfl
@[go_sem] theorem aggT_223 : aggT Tryz.prog 223 = some false := by kernel_rfl
@[go_sem] theorem bytesT_223 : bytesT Tryz.prog 223 = some 8 := by kernel_rfl
@[go_sem] theorem zeroT_223 : zeroT Tryz.prog 223 = some [AV.any] := by kernel_rfl
@[go_sem] theorem sizeT_224 : sizeT Tryz.prog 224 = some 1 := by kernel_rfl
@[go_sem] theorem aggT_224 : aggT Tryz.prog 224 = some false := by kernel_rfl
@[go_sem] theorem bytesT_224 : bytesT Tryz.prog 224 = some 8 := by kernel_rfl
@[go_sem] theorem zeroT_224 : zeroT Tryz.prog 224 = some [AV.any] := by kernel_rfl
@[go_sem] theorem sizeT_225 : sizeT Tryz.prog 225 = some 1 := by kernel_rfl
@[go_sem] theorem aggT_225 : aggT Tryz.prog 225 = some false := by kernel_rfl
@[go_sem] theorem bytesT_225 : bytesT Tryz.prog 225 = some 8 := by kernel_rfl
@[go_sem] theorem zeroT_225 : zeroT Tryz.prog 225 = some [AV.any] := by kernel_rfl
@[go_sem] theorem sizeT_226 : sizeT Tryz.prog 226 = some 1 := by kernel_rfl
@[go_sem] theorem aggT_226 : aggT Tryz.prog 226 = some false := by kernel_rfl
@[go_sem] theorem bytesT_226 : bytesT Tryz.prog 226 = some 8 := by kernel_rfl
@[go_sem] theorem zeroT_226 : zeroT Tryz.prog 226 = some [AV.any] := by kernel_rfl
@[go_sem] theorem sizeT_227 : sizeT Tryz.prog 227 = some 1 := by kernel_rfl
@[go_sem] theorem aggT_227 : aggT Tryz.prog 227 = some false := by kernel_rfl
@[go_sem] theorem bytesT_227 : bytesT Tryz.prog 227 = some 8 := by kernel_rfl
@[go_sem] theorem zeroT_227 : zeroT Tryz.prog 227 = some [AV.any] := by kernel_rfl
@[go_sem] theorem sizeT_228 : sizeT Tryz.prog 228 = some 1 := by kernel_rfl
@[go_sem] theorem aggT_228 : aggT Tryz.prog 228 = some false := by kernel_rfl
@[go_sem] theorem bytesT_228 : bytesT Tryz.prog 228 = some 8 := by kernel_rfl
@[go_sem] theorem zeroT_228 : zeroT Tryz.prog 228 = some [AV.any] := by kernel_rfl
@[go_sem] theorem sizeT_229 : sizeT Tryz.prog 229 = some 1 := by kernel_rfl
@[go_sem] theorem aggT_229 : aggT Tryz.prog 229 = some false := by kernel_rfl
@[go_sem] theorem bytesT_229 : bytesT Tryz.prog 229 = some 8 := by kernel_rfl
@[go_sem] theorem zeroT_229 : zeroT Tryz.prog 229 = some [AV.any] := by kernel_rfl
@[go_sem] theorem sizeT_230 : sizeT Tryz.prog 230 = some 1 := by kernel_rfl
@[go_sem] theorem aggT_230 : aggT Tryz.prog 230 = some false := by kernel_rfl
@[go_sem] theorem bytesT_230 : bytesT Tryz.prog 230 = some 8 := by kernel_rfl
@[go_sem] theorem zeroT_230 : zeroT Tryz.prog 230 = some [AV.int .i64 (0)] := by kernel_rfl
@[go_sem] theorem intT_230 : intT Tryz.prog 230 = some .i64 := by kernel_rfl
@[go_sem] theorem sizeT_232 : sizeT Tryz.prog 232 = some 1 := by kernel_rfl
@[go_sem] theorem aggT_232 : aggT Tryz.prog 232 = some false := by kernel_rfl
@[go_sem] theorem bytesT_232 : bytesT Tryz.prog 232 = some 8 := by kernel_rfl
@[go_sem] theorem zeroT_232 : zeroT Tryz.prog 232 = some [AV.any] := by kernel_rfl
@[go_sem] theorem sizeT_233 : sizeT Tryz.prog 233 = some 1 := by kernel_rfl
@[go_sem] theorem aggT_233 : aggT Tryz.prog 233 = some false := by kernel_rfl
@[go_sem] theorem bytesT_233 : bytesT Tryz.prog 233 = some 8 := by kernel_rfl
@[go_sem] theorem zeroT_233 : zeroT Tryz.prog 233 = some [AV.any] := by kernel_rfl
@[go_sem] theorem sizeT_234 : sizeT Tryz.prog 234 = some 1 := by kernel_rfl
@[go_sem] theorem aggT_234 : aggT Tryz.prog 234 = some false := by kernel_rfl
@[go_sem] theorem bytesT_234 : bytesT Tryz.prog 234 = some 8 := by kernel_rfl
@[go_sem] theorem zeroT_234 : zeroT Tryz.prog 234 = some [AV.any] := by kernel_rfl
@[go_sem] theorem sizeT_236 : sizeT Tryz.prog 236 = some 1 := by kernel_rfl
@[go_sem] theorem aggT_236 : aggT Tryz.prog 236 = some false := by kernel_rfl
@[go_sem] theorem bytesT_236 : bytesT Tryz.prog 236 = some 8 := by kernel_rfl
@[go_sem] theorem zeroT_236 : zeroT Tryz.prog 236 = some [AV.any] := by kernel_rfl
@[go_sem] theorem sizeT_237 : sizeT Tryz.prog 237 = some 1 := by kernel_rfl
@[go_sem] theorem aggT_237 : aggT Tryz.prog 237 = some false := by kernel_rfl
@[go_sem] theorem bytesT_237 : bytesT Tryz.prog 237 = some 8 := by kernel_rfl
@[go_sem] theorem zeroT_237 : zeroT Tryz.prog 237 = some [AV.any] := by kernel_rfl
@[go_sem] theorem sizeT_238 : sizeT Tryz.prog 238 = some 1 := by kernel_rfl
@[go_sem] theorem aggT_238 : aggT Tryz.prog 238 = some false := by kernel_rfl
@[go_sem] theorem bytesT_238 : bytesT Tryz.prog 238 = some 4 := by kernel_rfl
@[go_sem] theorem zeroT_238 : zeroT Tryz.prog 238 = some [AV.int .u32 (0)] := by kernel_rfl
@[go_sem] theorem intT_238 : intT Tryz.prog 238 = some .u32 := by kernel_rfl
@[go_sem] theorem sizeT_239 : sizeT Tryz.prog 239 = some 1 := by kernel_rfl
@[go_sem] theorem aggT_239 : aggT Tryz.prog 239 = some false := by kernel_rfl
@[go_sem] theorem bytesT_239 : bytesT Tryz.prog 239 = some 8 := by kernel_rfl
@[go_sem] theorem zeroT_239 : zeroT Tryz.prog 239 = some [AV.any] := by kernel_rfl
@[go_sem] theorem sizeT_240 : sizeT Tryz.prog 240 = some 1 := by kernel_rfl
@[go_sem] theorem aggT_240 : aggT Tryz.prog 240 = some false := by kernel_rfl
@[go_sem] theorem bytesT_240 : bytesT Tryz.prog 240 = some 8 := by kernel_rfl
@[go_sem] theorem zeroT_240 : zeroT Tryz.prog 240 = some [AV.int .u64 (0)] := by kernel_rfl
@[go_sem] theorem intT_240 : intT Tryz.prog 240 = some .u64 := by kernel_rfl
@[go_sem] theorem sizeT_241 : sizeT Tryz.prog 241 = some 1 := by kernel_rfl
@[go_sem] theorem aggT_241 : aggT Tryz.prog 241 = some false := by kernel_rfl
@[go_sem] theorem bytesT_241 : bytesT Tryz.prog 241 = some 24 := by kernel_rfl
@[go_sem] theorem zeroT_241 : zeroT Tryz.prog 241 = some [AV.nils] := by kernel_rfl
@[go_sem] theorem elemT_241 : elemT Tryz.prog 241 = some 264 := by kernel_rfl
@[go_sem] theorem isBytesT_241 : isBytesT Tryz.prog 241 = false := by kernel_rfl
@[go_sem] theorem sizeT_242 : sizeT Tryz.prog 242 = some 1 := by kernel_rfl
@[go_sem] theorem aggT_242 : aggT Tryz.prog 242 = some false := by kernel_rfl
@[go_sem] theorem bytesT_242 : bytesT Tryz.prog 242 = some 8 := by kernel_rfl
@[go_sem] theorem zeroT_242 : zeroT Tryz.prog 242 = some [AV.any] := by kernel_rfl
@[go_sem] theorem sizeT_243 : sizeT Tryz.prog 243 = some 1 := by kernel_rfl
@[go_sem] theorem aggT_243 : aggT Tryz.prog 243 = some false := by kernel_rfl
@[go_sem] theorem bytesT_243 : bytesT Tryz.prog 243 = some 8 := by kernel_rfl
@[go_sem] theorem zeroT_243 : zeroT Tryz.prog 243 = some [AV.any] := by kernel_rfl
@[go_sem] theorem sizeT_245 : sizeT Tryz.prog 245 = some 1 := by kernel_rfl
@[go_sem] theorem aggT_245 : aggT Tryz.prog 245 = some false := by kernel_rfl
@[go_sem] theorem bytesT_245 : bytesT Tryz.prog 245 = some 8 := by kernel_rfl
@[go_sem] theorem zeroT_245 : zeroT Tryz.prog 245 = some [AV.any] := by kernel_rfl
@[go_sem] theorem sizeT_246 : sizeT Tryz.prog 246 = some 1 := by kernel_rfl
@[go_sem] theorem aggT_246 : aggT Tryz.prog 246 = some false := by kernel_rfl
@[go_sem] theorem bytesT_246 : bytesT Tryz.prog 246 = some 8 := by kernel_rfl
@[go_sem] theorem zeroT_246 : zeroT Tryz.prog 246 = some [AV.any] := by kernel_rfl
@[go_sem] theorem sizeT_247 : sizeT Tryz.prog 247 = some 1 := by kernel_rfl
@[go_sem] theorem aggT_247 : aggT Tryz.prog 247 = some false := by kernel_rfl
@[go_sem] theorem bytesT_247 : bytesT Tryz.prog 247 = some 8 := by kernel_rfl
@[go_sem] theorem zeroT_247 : zeroT Tryz.prog 247 = some [AV.any] := by kernel_rfl
@[go_sem] theorem sizeT_248 : sizeT Tryz.prog 248 = some 2 := by kernel_rfl
@[go_sem] theorem aggT_248 : aggT Tryz.prog 248 = some true := by kernel_rfl
@[go_sem] theorem bytesT_248 : bytesT Tryz.prog 248 = some 32 := by kernel_rfl
@[go_sem] theorem fieldT_248_0 : fieldT Tryz.prog 248 0 = some (0, 247) := by kernel_rfl
@[go_sem] theorem fieldT_248_1 : fieldT Tryz.prog 248 1 = some (1, 207) := by kernel_rfl
@[go_sem] theorem placesT_248 : placesT Tryz.prog 248 = some [(0, 1), (1, 1)] := by kernel_rfl
@[go_sem] theorem sizeT_249 : sizeT Tryz.prog 249 = some 2 := by kernel_rfl
@[go_sem] theorem aggT_249 : aggT Tryz.prog 249 = some true := by kernel_rfl
@[go_sem] theorem bytesT_249 : bytesT Tryz.prog 249 = some 32 := by kernel_rfl
@[go_sem] theorem fieldT_249_0 : fieldT Tryz.prog 249 0 = some (0, 247) := by kernel_rfl
@[go_sem] theorem fieldT_249_1 : fieldT Tryz.prog 249 1 = some (1, 207) := by kernel_rfl
@[go_sem] theorem placesT_249 : placesT Tryz.prog 249 = some [(0, 1), (1, 1)] := by kernel_rfl
@[go_sem] theorem sizeT_250 : sizeT Tryz.prog 250 = some 1 := by kernel_rfl
@[go_sem] theorem aggT_250 : aggT Tryz.prog 250 = some false := by kernel_rfl
@[go_sem] theorem bytesT_250 : bytesT Tryz.prog 250 = some 8 := by kernel_rfl
@[go_sem] theorem zeroT_250 : zeroT Tryz.prog 250 = some [AV.any] := by kernel_rfl
@[go_sem] theorem sizeT_254 : sizeT Tryz.prog 254 = some 1 := by kernel_rfl
@[go_sem] theorem aggT_254 : aggT Tryz.prog 254 = some false := by kernel_rfl
@[go_sem] theorem bytesT_254 : bytesT Tryz.prog 254 = some 8 := by kernel_rfl
@[go_sem] theorem zeroT_254 : zeroT Tryz.prog 254 = some [AV.any] := by kernel_rfl
@[go_sem] theorem sizeT_255 : sizeT Tryz.prog 255 = some 1 := by kernel_rfl
@[go_sem] theorem aggT_255 : aggT Tryz.prog 255 = some false := by kernel_rfl
@[go_sem] theorem bytesT_255 : bytesT Tryz.prog 255 = some 8 := by kernel_rfl
@[go_sem] theorem zeroT_255 : zeroT Tryz.prog 255 = some [AV.any] := by kernel_rfl
@[go_sem] theorem sizeT_256 : sizeT Tryz.prog 256 = some 1 := by kernel_rfl
@[go_sem] theorem aggT_256 : aggT Tryz.prog 256 = some false := by kernel_rfl
@[go_sem] theorem bytesT_256 : bytesT Tryz.prog 256 = some 8 := by kernel_rfl
@[go_sem] theorem zeroT_256 : zeroT Tryz.prog 256 = some [AV.any] := by kernel_rfl
@[go_sem] theorem sizeT_257 : sizeT Tryz.prog 257 = some 1 := by kernel_rfl
@[go_sem] theorem aggT_257 : aggT Tryz.prog 257 = some false := by kernel_rfl
@[go_sem] theorem bytesT_257 : bytesT Tryz.prog 257 = some 8 := by kernel_rfl
@[go_sem] theorem zeroT_257 : zeroT Tryz.prog 257 = some [AV.int .u64 (0)] := by kernel_rfl
@[go_sem] theorem intT_257 : intT Tryz.prog 257 = some .u64 := by kernel_rfl
@[go_sem] theorem sizeT_258 : sizeT Tryz.prog 258 = some 1 := by kernel_rfl
@[go_sem] theorem aggT_258 : aggT Tryz.prog 258 = some false := by kernel_rfl
@[go_sem] theorem bytesT_258 : bytesT Tryz.prog 258 = some 8 := by kernel_rfl
@[go_sem] theorem zeroT_258 : zeroT Tryz.prog 258 = some [AV.any] := by kernel_rfl
@[go_sem] theorem sizeT_259 : sizeT Tryz.prog 259 = some 1 := by kernel_rfl
@[go_sem] theorem aggT_259 : aggT Tryz.prog 259 = some false := by kernel_rfl
@[go_sem] theorem bytesT_259 : bytesT Tryz.prog 259 = some 8 := by kernel_rfl
@[go_sem] theorem zeroT_259 : zeroT Tryz.prog 259 = some [AV.any] := by kernel_rfl
@[go_sem] theorem sizeT_260 : sizeT Tryz.prog 260 = some 1 := by kernel_rfl
@[go_sem] theorem aggT_260 : aggT Tryz.prog 260 = some false := by kernel_rfl
@[go_sem] theorem bytesT_260 : bytesT Tryz.prog 260 = some 8 := by kernel_rfl
@[go_sem] theorem zeroT_260 : zeroT Tryz.prog 260 = some [AV.any] := by kernel_rfl
@[go_sem] theorem sizeT_261 : sizeT Tryz.prog 261 = some 1 := by kernel_rfl
@[go_sem] theorem aggT_261 : aggT Tryz.prog 261 = some false := by kernel_rfl
@[go_sem] theorem bytesT_261 : bytesT Tryz.prog 261 = some 8 := by kernel_rfl
@[go_sem] theorem zeroT_261 : zeroT Tryz.prog 261 = some [AV.any] := by kernel_rfl
@[go_sem] theorem sizeT_262 : sizeT Tryz.prog 262 = some 1 := by kernel_rfl
@[go_sem] theorem aggT_262 : aggT Tryz.prog 262 = some false := by kernel_rfl
@[go_sem] theorem bytesT_262 : bytesT Tryz.prog 262 = some 8 := by kernel_rfl
@[go_sem] theorem zeroT_262 : zeroT Tryz.prog 262 = some [AV.any] := by kernel_rfl
@[go_sem] theorem sizeT_263 : sizeT Tryz.prog 263 = some 2 := by kernel_rfl
@[go_sem] theorem aggT_263 : aggT Tryz.prog 263 = some true := by kernel_rfl
@[go_sem] theorem bytesT_263 : bytesT Tryz.prog 263 = some 32 := by kernel_rfl
@[go_sem] theorem zeroT_263 : zeroT Tryz.prog 263 = some [AV.str ⟨#[]⟩, AV.str ⟨#[]⟩] := by kernel_rfl
@[go_sem] theorem fieldT_263_0 : fieldT Tryz.prog 263 0 = some (0, 9) := by kernel_rfl
@[go_sem] theorem fieldT_263_1 : fieldT Tryz.prog 263 1 = some (1, 9) := by kernel_rfl
@[go_sem] theorem eqK_263 : eqK Tryz.prog 263 = some [.str, .str] := by kernel_rfl
@[go_sem] theorem placesT_263 : placesT Tryz.prog 263 = some [(0, 1), (1, 1)] := by kernel_rfl
@[go_sem] theorem sizeT_264 : sizeT Tryz.prog 264 = some 2 := by kernel_rfl
@[go_sem] theorem aggT_264 : aggT Tryz.prog 264 = some true := by kernel_rfl
@[go_sem] theorem bytesT_264 : bytesT Tryz.prog 264 = some 32 := by kernel_rfl
@[go_sem] theorem zeroT_264 : zeroT Tryz.prog 264 = some [AV.str ⟨#[]⟩, AV.str ⟨#[]⟩] := by kernel_rfl
@[go_sem] theorem fieldT_264_0 : fieldT Tryz.prog 264 0 = some (0, 9) := by kernel_rfl
@[go_sem] theorem fieldT_264_1 : fieldT Tryz.prog 264 1 = some (1, 9) := by kernel_rfl
@[go_sem] theorem eqK_264 : eqK Tryz.prog 264 = some [.str, .str] := by kernel_rfl
@[go_sem] theorem placesT_264 : placesT Tryz.prog 264 = some [(0, 1), (1, 1)] := by kernel_rfl
@[go_sem] theorem sizeT_265 : sizeT Tryz.prog 265 = some 1 := by kernel_rfl
@[go_sem] theorem aggT_265 : aggT Tryz.prog 265 = some false := by kernel_rfl
@[go_sem] theorem bytesT_265 : bytesT Tryz.prog 265 = some 8 := by kernel_rfl
@[go_sem] theorem zeroT_265 : zeroT Tryz.prog 265 = some [AV.any] := by kernel_rfl
@[go_sem] theorem sizeT_267 : sizeT Tryz.prog 267 = some 1 := by kernel_rfl
@[go_sem] theorem aggT_267 : aggT Tryz.prog 267 = some false := by kernel_rfl
@[go_sem] theorem bytesT_267 : bytesT Tryz.prog 267 = some 8 := by kernel_rfl
@[go_sem] theorem zeroT_267 : zeroT Tryz.prog 267 = some [AV.any] := by kernel_rfl
@[go_sem] theorem sizeT_269 : sizeT Tryz.prog 269 = some 1 := by kernel_rfl
@[go_sem] theorem aggT_269 : aggT Tryz.prog 269 = some false := by kernel_rfl
@[go_sem] theorem bytesT_269 : bytesT Tryz.prog 269 = some 8 := by kernel_rfl
@[go_sem] theorem zeroT_269 : zeroT Tryz.prog 269 = some [AV.any] := by kernel_rfl
@[go_sem] theorem sizeT_270 : sizeT Tryz.prog 270 = some 1 := by kernel_rfl
@[go_sem] theorem aggT_270 : aggT Tryz.prog 270 = some false := by kernel_rfl
@[go_sem] theorem bytesT_270 : bytesT Tryz.prog 270 = some 8 := by kernel_rfl
@[go_sem] theorem zeroT_270 : zeroT Tryz.prog 270 = some [AV.any] := by kernel_rfl
@[go_sem] theorem sizeT_271 : sizeT Tryz.prog 271 = some 1 := by kernel_rfl
@[go_sem] theorem aggT_271 : aggT Tryz.prog 271 = some false := by kernel_rfl
@[go_sem] theorem bytesT_271 : bytesT Tryz.prog 271 = some 8 := by kernel_rfl
@[go_sem] theorem zeroT_271 : zeroT Tryz.prog 271 = some [AV.any] := by kernel_rfl
@[go_sem] theorem sizeT_272 : sizeT Tryz.prog 272 = some 1 := by kernel_rfl
@[go_sem] theorem aggT_272 : aggT Tryz.prog 272 = some false := by kernel_rfl
@[go_sem] theorem bytesT_272 : bytesT Tryz.prog 272 = some 8 := by kernel_rfl
@[go_sem] theorem zeroT_272 : zeroT Tryz.prog 272 = some [AV.any] := by kernel_rfl
@[go_sem] theorem sizeT_273 : sizeT Tryz.prog 273 = some 1 := by kernel_rfl
@[go_sem] theorem aggT_273 : aggT Tryz.prog 273 = some false := by kernel_rfl
@[go_sem] theorem bytesT_273 : bytesT Tryz.prog 273 = some 8 := by kernel_rfl
@[go_sem] theorem zeroT_273 : zeroT Tryz.prog 273 = some [AV.any] := by kernel_rfl
@[go_sem] theorem sizeT_274 : sizeT Tryz.prog 274 = some 1 := by kernel_rfl
@[go_sem] theorem aggT_274 : aggT Tryz.prog 274 = some false := by kernel_rfl
@[go_sem] theorem bytesT_274 : bytesT Tryz.prog 274 = some 8 := by kernel_rfl
@[go_sem] theorem zeroT_274 : zeroT Tryz.prog 274 = some [AV.any] := by kernel_rfl
@[go_sem] theorem sizeT_276 : sizeT Tryz.prog 276 = some 1 := by kernel_rfl
@[go_sem] theorem aggT_276 : aggT Tryz.prog 276 = some false := by kernel_rfl
@[go_sem] theorem bytesT_276 : bytesT Tryz.prog 276 = some 8 := by kernel_rfl
@[go_sem] theorem zeroT_276 : zeroT Tryz.prog 276 = some [AV.any] := by kernel_rfl
@[go_sem] theorem sizeT_277 : sizeT Tryz.prog 277 = some 1 := by kernel_rfl
@[go_sem] theorem aggT_277 : aggT Tryz.prog 277 = some false := by kernel_rfl
@[go_sem] theorem bytesT_277 : bytesT Tryz.prog 277 = some 8 := by kernel_rfl
@[go_sem] theorem zeroT_277 : zeroT Tryz.prog 277 = some [AV.any] := by kernel_rfl
@[go_sem] theorem sizeT_278 : sizeT Tryz.prog 278 = some 4 := by kernel_rfl
@[go_sem] theorem aggT_278 : aggT Tryz.prog 278 = some true := by kernel_rfl
@[go_sem] theorem bytesT_278 : bytesT Tryz.prog 278 = some 40 := by kernel_rfl
@[go_sem] theorem fieldT_278_0 : fieldT Tryz.prog 278 0 = some (0, 17) := by kernel_rfl
@[go_sem] theorem fieldT_278_1 : fieldT Tryz.prog 278 1 = some (1, 17) := by kernel_rfl
@[go_sem] theorem fieldT_278_2 : fieldT Tryz.prog 278 2 = some (2, 17) := by kernel_rfl
@[go_sem] theorem fieldT_278_3 : fieldT Tryz.prog 278 3 = some (3, 9) := by kernel_rfl
@[go_sem] theorem placesT_278 : placesT Tryz.prog 278 = some [(0, 1), (1, 1), (2, 1), (3, 1)] := by kernel_rfl
@[go_sem] theorem sizeT_279 : sizeT Tryz.prog 279 = some 4 := by kernel_rfl
@[go_sem] theorem aggT_279 : aggT Tryz.prog 279 = some true := by kernel_rfl
@[go_sem] theorem bytesT_279 : bytesT Tryz.prog 279 = some 40 := by kernel_rfl
@[go_sem] theorem fieldT_279_0 : fieldT Tryz.prog 279 0 = some (0, 17) := by kernel_rfl
@[go_sem] theorem fieldT_279_1 : fieldT Tryz.prog 279 1 = some (1, 17) := by kernel_rfl
@[go_sem] theorem fieldT_279_2 : fieldT Tryz.prog 279 2 = some (2, 17) := by kernel_rfl
@[go_sem] theorem fieldT_279_3 : fieldT Tryz.prog 279 3 = some (3, 9) := by kernel_rfl
@[go_sem] theorem placesT_279 : placesT Tryz.prog 279 = some [(0, 1), (1, 1), (2, 1), (3, 1)] := by kernel_rfl
@[go_sem] theorem sizeT_281 : sizeT Tryz.prog 281 = some 0 := by kernel_rfl
@[go_sem] theorem aggT_281 : aggT Tryz.prog 281 = some true := by kernel_rfl
@[go_sem] theorem bytesT_281 : bytesT Tryz.prog 281 = some 0 := by kernel_rfl
@[go_sem] theorem zeroT_281 : zeroT Tryz.prog 281 = some [] := by kernel_rfl
@[go_sem] theorem fieldT_281_0 : fieldT Tryz.prog 281 0 = some (0, 280) := by kernel_rfl
@[go_sem] theorem placesT_281 : placesT Tryz.prog 281 = some [(0, 0)] := by kernel_rfl
@[go_sem] theorem sizeT_282 : sizeT Tryz.prog 282 = some 0 := by kernel_rfl
@[go_sem] theorem aggT_282 : aggT Tryz.prog 282 = some true := by kernel_rfl
@[go_sem] theorem bytesT_282 : bytesT Tryz.prog 282 = some 0 := by kernel_rfl
@[go_sem] theorem zeroT_282 : zeroT Tryz.prog 282 = some [] := by kernel_rfl
@[go_sem] theorem fieldT_282_0 : fieldT Tryz.prog 282 0 = some (0, 280) := by kernel_rfl
@[go_sem] theorem placesT_282 : placesT Tryz.prog 282 = some [(0, 0)] := by kernel_rfl
@[go_sem] theorem sizeT_283 : sizeT Tryz.prog 283 = some 1 := by kernel_rfl
@[go_sem] theorem aggT_283 : aggT Tryz.prog 283 = some false := by kernel_rfl
@[go_sem] theorem bytesT_283 : bytesT Tryz.prog 283 = some 1 := by kernel_rfl
@[go_sem] theorem zeroT_283 : zeroT Tryz.prog 283 = some [AV.int .u8 (0)] := by kernel_rfl
@[go_sem] theorem intT_283 : intT Tryz.prog 283 = some .u8 := by kernel_rfl
@[go_sem] theorem sizeT_284 : sizeT Tryz.prog 284 = some 1 := by kernel_rfl
@[go_sem] theorem aggT_284 : aggT Tryz.prog 284 = some false := by kernel_rfl
@[go_sem] theorem bytesT_284 : bytesT Tryz.prog 284 = some 1 := by kernel_rfl
@[go_sem] theorem zeroT_284 : zeroT Tryz.prog 284 = some [AV.int .u8 (0)] := by kernel_rfl
@[go_sem] theorem intT_284 : intT Tryz.prog 284 = some .u8 := by kernel_rfl
@[go_sem] theorem sizeT_285 : sizeT Tryz.prog 285 = some 1 := by kernel_rfl
@[go_sem] theorem aggT_285 : aggT Tryz.prog 285 = some false := by kernel_rfl
@[go_sem] theorem bytesT_285 : bytesT Tryz.prog 285 = some 8 := by kernel_rfl
@[go_sem] theorem zeroT_285 : zeroT Tryz.prog 285 = some [AV.any] := by kernel_rfl
@[go_sem] theorem sizeT_286 : sizeT Tryz.prog 286 = some 1 := by kernel_rfl
@[go_sem] theorem aggT_286 : aggT Tryz.prog 286 = some false := by kernel_rfl
@[go_sem] theorem bytesT_286 : bytesT Tryz.prog 286 = some 4 := by kernel_rfl
@[go_sem] theorem zeroT_286 : zeroT Tryz.prog 286 = some [AV.int .i32 (0)] := by kernel_rfl
@[go_sem] theorem intT_286 : intT Tryz.prog 286 = some .i32 := by kernel_rfl
@[go_sem] theorem sizeT_287 : sizeT Tryz.prog 287 = some 1 := by kernel_rfl
@[go_sem] theorem aggT_287 : aggT Tryz.prog 287 = some false := by kernel_rfl
@[go_sem] theorem bytesT_287 : bytesT Tryz.prog 287 = some 4 := by kernel_rfl
@[go_sem] theorem zeroT_287 : zeroT Tryz.prog 287 = some [AV.int .i32 (0)] := by kernel_rfl
@[go_sem] theorem intT_287 : intT Tryz.prog 287 = some .i32 := by kernel_rfl
@[go_sem] theorem sizeT_288 : sizeT Tryz.prog 288 = some 11 := by kernel_rfl
@[go_sem] theorem aggT_288 : aggT Tryz.prog 288 = some true := by kernel_rfl
@[go_sem] theorem bytesT_288 : bytesT Tryz.prog 288 = some 48 := by kernel_rfl
@[go_sem] theorem fieldT_288_0 : fieldT Tryz.prog 288 0 = some (0, 12) := by kernel_rfl
@[go_sem] theorem fieldT_288_1 : fieldT Tryz.prog 288 1 = some (1, 12) := by kernel_rfl
@[go_sem] theorem fieldT_288_2 : fieldT Tryz.prog 288 2 = some (2, 238) := by kernel_rfl
@[go_sem] theorem fieldT_288_3 : fieldT Tryz.prog 288 3 = some (3, 283) := by kernel_rfl
@[go_sem] theorem fieldT_288_4 : fieldT Tryz.prog 288 4 = some (4, 5) := by kernel_rfl
@[go_sem] theorem fieldT_288_5 : fieldT Tryz.prog 288 5 = some (5, 5) := by kernel_rfl
@[go_sem] theorem fieldT_288_6 : fieldT Tryz.prog 288 6 = some (6, 284) := by kernel_rfl
@[go_sem] theorem fieldT_288_7 : fieldT Tryz.prog 288 7 = some (7, 285) := by kernel_rfl
@[go_sem] theorem fieldT_288_8 : fieldT Tryz.prog 288 8 = some (8, 270) := by kernel_rfl
@[go_sem] theorem fieldT_288_9 : fieldT Tryz.prog 288 9 = some (9, 286) := by kernel_rfl
@[go_sem] theorem fieldT_288_10 : fieldT Tryz.prog 288 10 = some (10, 287) := by kernel_rfl
@[go_sem] theorem placesT_288 : placesT Tryz.prog 288 = some [(0, 1), (1, 1), (2, 1), (3, 1), (4, 1), (5, 1), (6, 1), (7, 1), (8, 1), (9, 1), (10, 1)] := by kernel_rfl
@[go_sem] theorem sizeT_289 : sizeT Tryz.prog 289 = some 11 := by kernel_rfl
@[go_sem] theorem aggT_289 : aggT Tryz.prog 289 = some true := by kernel_rfl
@[go_sem] theorem bytesT_289 : bytesT Tryz.prog 289 = some 48 := by kernel_rfl
@[go_sem] theorem fieldT_289_0 : fieldT Tryz.prog 289 0 = some (0, 12) := by kernel_rfl
@[go_sem] theorem fieldT_289_1 : fieldT Tryz.prog 289 1 = some (1, 12) := by kernel_rfl
@[go_sem] theorem fieldT_289_2 : fieldT Tryz.prog 289 2 = some (2, 238) := by kernel_rfl
@[go_sem] theorem fieldT_289_3 : fieldT Tryz.prog 289 3 = some (3, 283) := by kernel_rfl
@[go_sem] theorem fieldT_289_4 : fieldT Tryz.prog 289 4 = some (4, 5) := by kernel_rfl
@[go_sem] theorem fieldT_289_5 : fieldT Tryz.prog 289 5 = some (5, 5) := by kernel_rfl
@[go_sem] theorem fieldT_289_6 : fieldT Tryz.prog 289 6 = some (6, 284) := by kernel_rfl
@[go_sem] theorem fieldT_289_7 : fieldT Tryz.prog 289 7 = some (7, 285) := by kernel_rfl
@[go_sem] theorem fieldT_289_8 : fieldT Tryz.prog 289 8 = some (8, 270) := by kernel_rfl
@[go_sem] theorem fieldT_289_9 : fieldT Tryz.prog 289 9 = some (9, 286) := by kernel_rfl
@[go_sem] theorem fieldT_289_10 : fieldT Tryz.prog 289 10 = some (10, 287) := by kernel_rfl
@[go_sem] theorem placesT_289 : placesT Tryz.prog 289 = some [(0, 1), (1, 1), (2, 1), (3, 1), (4, 1), (5, 1), (6, 1), (7, 1), (8, 1), (9, 1), (10, 1)] := by kernel_rfl

end Go.Proofs.YtbhgehhmjpipiaaGreat.Ty
