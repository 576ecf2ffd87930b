/- What the types of this seat are, for the abstract machine: printed by a program of this work, each row reckoned by the kernel. -/
import Derived.Test.YtppjmigiogddpaaGreatAb15
import Derived.Test.YtppjmigiogddpaaGreatProg
namespace Go.Proofs.YtppjmigiogddpaaGreat.Ty
open Go Go.Proofs Go.Proofs.YtppjmigiogddpaaGreat.Ab

@[go_sem] theorem sizeT_1 : sizeT Tryz.prog 1 = some 1 := by kernel_rfl
@[go_sem] theorem aggT_1 : aggT Tryz.prog 1 = some false := by kernel_rfl
@[go_sem] theorem bytesT_1 : bytesT Tryz.prog 1 = some 8 := by kernel_rfl
@[go_sem] theorem zeroT_1 : zeroT Tryz.prog 1 = some [AV.any] := by kernel_rfl
@[go_sem] theorem sizeT_2 : sizeT Tryz.prog 2 = some 1 := by kernel_rfl
@[go_sem] theorem aggT_2 : aggT Tryz.prog 2 = some false := by kernel_rfl
@[go_sem] theorem bytesT_2 : bytesT Tryz.prog 2 = some 8 := by kernel_rfl
@[go_sem] theorem zeroT_2 : zeroT Tryz.prog 2 = some [AV.int .i64 (0)] := by kernel_rfl
@[go_sem] theorem intT_2 : intT Tryz.prog 2 = some .i64 := by kernel_rfl
@[go_sem] theorem sizeT_3 : sizeT Tryz.prog 3 = some 1 := by kernel_rfl
@[go_sem] theorem aggT_3 : aggT Tryz.prog 3 = some false := by kernel_rfl
@[go_sem] theorem bytesT_3 : bytesT Tryz.prog 3 = some 8 := by kernel_rfl
@[go_sem] theorem zeroT_3 : zeroT Tryz.prog 3 = some [AV.int .i64 (0)] := by kernel_rfl
@[go_sem] theorem intT_3 : intT Tryz.prog 3 = some .i64 := by kernel_rfl
@[go_sem] theorem sizeT_4 : sizeT Tryz.prog 4 = some 1 := by kernel_rfl
@[go_sem] theorem aggT_4 : aggT Tryz.prog 4 = some false := by kernel_rfl
@[go_sem] theorem bytesT_4 : bytesT Tryz.prog 4 = some 1 := by kernel_rfl
@[go_sem] theorem zeroT_4 : zeroT Tryz.prog 4 = some [AV.bool false] := by kernel_rfl
@[go_sem] theorem isBoolT_4 : isBoolT Tryz.prog 4 = true := by kernel_rfl
@[go_sem] theorem sizeT_5 : sizeT Tryz.prog 5 = some 1 := by kernel_rfl
@[go_sem] theorem aggT_5 : aggT Tryz.prog 5 = some false := by kernel_rfl
@[go_sem] theorem bytesT_5 : bytesT Tryz.prog 5 = some 1 := by kernel_rfl
@[go_sem] theorem zeroT_5 : zeroT Tryz.prog 5 = some [AV.int .u8 (0)] := by kernel_rfl
@[go_sem] theorem intT_5 : intT Tryz.prog 5 = some .u8 := by kernel_rfl
@[go_sem] theorem sizeT_6 : sizeT Tryz.prog 6 = some 1 := by kernel_rfl
@[go_sem] theorem aggT_6 : aggT Tryz.prog 6 = some false := by kernel_rfl
@[go_sem] theorem bytesT_6 : bytesT Tryz.prog 6 = some 1 := by kernel_rfl
@[go_sem] theorem zeroT_6 : zeroT Tryz.prog 6 = some [AV.int .u8 (0)] := by kernel_rfl
@[go_sem] theorem intT_6 : intT Tryz.prog 6 = some .u8 := by kernel_rfl
@[go_sem] theorem sizeT_7 : sizeT Tryz.prog 7 = some 4 := by kernel_rfl
@[go_sem] theorem aggT_7 : aggT Tryz.prog 7 = some true := by kernel_rfl
@[go_sem] theorem bytesT_7 : bytesT Tryz.prog 7 = some 24 := by kernel_rfl
@[go_sem] theorem zeroT_7 : zeroT Tryz.prog 7 = some [AV.int .i64 (0), AV.int .i64 (0), AV.bool false, AV.int .u8 (0)] := by kernel_rfl
@[go_sem] theorem fieldT_7_0 : fieldT Tryz.prog 7 0 = some (0, 2) := by kernel_rfl
@[go_sem] theorem fieldT_7_1 : fieldT Tryz.prog 7 1 = some (1, 3) := by kernel_rfl
@[go_sem] theorem fieldT_7_2 : fieldT Tryz.prog 7 2 = some (2, 4) := by kernel_rfl
@[go_sem] theorem fieldT_7_3 : fieldT Tryz.prog 7 3 = some (3, 6) := by kernel_rfl
@[go_sem] theorem eqK_7 : eqK Tryz.prog 7 = some [.int, .int, .bool, .int] := by kernel_rfl
@[go_sem] theorem placesT_7 : placesT Tryz.prog 7 = some [(0, 1), (1, 1), (2, 1), (3, 1)] := by kernel_rfl
@[go_sem] theorem sizeT_8 : sizeT Tryz.prog 8 = some 4 := by kernel_rfl
@[go_sem] theorem aggT_8 : aggT Tryz.prog 8 = some true := by kernel_rfl
@[go_sem] theorem bytesT_8 : bytesT Tryz.prog 8 = some 24 := by kernel_rfl
@[go_sem] theorem zeroT_8 : zeroT Tryz.prog 8 = some [AV.int .i64 (0), AV.int .i64 (0), AV.bool false, AV.int .u8 (0)] := by kernel_rfl
@[go_sem] theorem fieldT_8_0 : fieldT Tryz.prog 8 0 = some (0, 2) := by kernel_rfl
@[go_sem] theorem fieldT_8_1 : fieldT Tryz.prog 8 1 = some (1, 3) := by kernel_rfl
@[go_sem] theorem fieldT_8_2 : fieldT Tryz.prog 8 2 = some (2, 4) := by kernel_rfl
@[go_sem] theorem fieldT_8_3 : fieldT Tryz.prog 8 3 = some (3, 6) := by kernel_rfl
@[go_sem] theorem eqK_8 : eqK Tryz.prog 8 = some [.int, .int, .bool, .int] := by kernel_rfl
@[go_sem] theorem placesT_8 : placesT Tryz.prog 8 = some [(0, 1), (1, 1), (2, 1), (3, 1)] := by kernel_rfl
@[go_sem] theorem sizeT_9 : sizeT Tryz.prog 9 = some 1 := by kernel_rfl
@[go_sem] theorem aggT_9 : aggT Tryz.prog 9 = some false := by kernel_rfl
@[go_sem] theorem bytesT_9 : bytesT Tryz.prog 9 = some 16 := by kernel_rfl
@[go_sem] theorem zeroT_9 : zeroT Tryz.prog 9 = some [AV.str ⟨#[]⟩] := by kernel_rfl
@[go_sem] theorem isStrT_9 : isStrT Tryz.prog 9 = true := by kernel_rfl
@[go_sem] theorem isBytesT_9 : isBytesT Tryz.prog 9 = false := by kernel_rfl
@[go_sem] theorem sizeT_10 : sizeT Tryz.prog 10 = some 1 := by kernel_rfl
@[go_sem] theorem aggT_10 : aggT Tryz.prog 10 = some false := by kernel_rfl
@[go_sem] theorem bytesT_10 : bytesT Tryz.prog 10 = some 16 := by kernel_rfl
@[go_sem] theorem zeroT_10 : zeroT Tryz.prog 10 = some [AV.str ⟨#[]⟩] := by kernel_rfl
@[go_sem] theorem isStrT_10 : isStrT Tryz.prog 10 = true := by kernel_rfl
@[go_sem] theorem isBytesT_10 : isBytesT Tryz.prog 10 = false := by kernel_rfl
@[go_sem] theorem sizeT_11 : sizeT Tryz.prog 11 = some 1 := by kernel_rfl
@[go_sem] theorem aggT_11 : aggT Tryz.prog 11 = some false := by kernel_rfl
@[go_sem] theorem bytesT_11 : bytesT Tryz.prog 11 = some 16 := by kernel_rfl
@[go_sem] theorem zeroT_11 : zeroT Tryz.prog 11 = some [AV.str ⟨#[]⟩] := by kernel_rfl
@[go_sem] theorem isStrT_11 : isStrT Tryz.prog 11 = true := by kernel_rfl
@[go_sem] theorem isBytesT_11 : isBytesT Tryz.prog 11 = false := by kernel_rfl
@[go_sem] theorem sizeT_12 : sizeT Tryz.prog 12 = some 1 := by kernel_rfl
@[go_sem] theorem aggT_12 : aggT Tryz.prog 12 = some false := by kernel_rfl
@[go_sem] theorem bytesT_12 : bytesT Tryz.prog 12 = some 8 := by kernel_rfl
@[go_sem] theorem zeroT_12 : zeroT Tryz.prog 12 = some [AV.int .u64 (0)] := by kernel_rfl
@[go_sem] theorem intT_12 : intT Tryz.prog 12 = some .u64 := by kernel_rfl
@[go_sem] theorem sizeT_13 : sizeT Tryz.prog 13 = some 2 := by kernel_rfl
@[go_sem] theorem aggT_13 : aggT Tryz.prog 13 = some true := by kernel_rfl
@[go_sem] theorem bytesT_13 : bytesT Tryz.prog 13 = some 24 := by kernel_rfl
@[go_sem] theorem zeroT_13 : zeroT Tryz.prog 13 = some [AV.str ⟨#[]⟩, AV.int .u64 (0)] := by kernel_rfl
@[go_sem] theorem fieldT_13_0 : fieldT Tryz.prog 13 0 = some (0, 9) := by kernel_rfl
@[go_sem] theorem fieldT_13_1 : fieldT Tryz.prog 13 1 = some (1, 12) := by kernel_rfl
@[go_sem] theorem placesT_13 : placesT Tryz.prog 13 = some [(0, 1), (1, 1)] := by kernel_rfl
@[go_sem] theorem sizeT_14 : sizeT Tryz.prog 14 = some 2 := by kernel_rfl
@[go_sem] theorem aggT_14 : aggT Tryz.prog 14 = some true := by kernel_rfl
@[go_sem] theorem bytesT_14 : bytesT Tryz.prog 14 = some 24 := by kernel_rfl
@[go_sem] theorem zeroT_14 : zeroT Tryz.prog 14 = some [AV.str ⟨#[]⟩, AV.int .u64 (0)] := by kernel_rfl
@[go_sem] theorem fieldT_14_0 : fieldT Tryz.prog 14 0 = some (0, 9) := by kernel_rfl
@[go_sem] theorem fieldT_14_1 : fieldT Tryz.prog 14 1 = some (1, 12) := by kernel_rfl
@[go_sem] theorem placesT_14 : placesT Tryz.prog 14 = some [(0, 1), (1, 1)] := by kernel_rfl
@[go_sem] theorem sizeT_15 : sizeT Tryz.prog 15 = some 1 := by kernel_rfl
@[go_sem] theorem aggT_15 : aggT Tryz.prog 15 = some false := by kernel_rfl
@[go_sem] theorem bytesT_15 : bytesT Tryz.prog 15 = some 8 := by kernel_rfl
@[go_sem] theorem zeroT_15 : zeroT Tryz.prog 15 = some [AV.any] := by kernel_rfl
@[go_sem] theorem sizeT_16 : sizeT Tryz.prog 16 = some 1 := by kernel_rfl
@[go_sem] theorem aggT_16 : aggT Tryz.prog 16 = some false := by kernel_rfl
@[go_sem] theorem bytesT_16 : bytesT Tryz.prog 16 = some 8 := by kernel_rfl
@[go_sem] theorem zeroT_16 : zeroT Tryz.prog 16 = some [AV.any] := by kernel_rfl
@[go_sem] theorem sizeT_17 : sizeT Tryz.prog 17 = some 1 := by kernel_rfl
@[go_sem] theorem aggT_17 : aggT Tryz.prog 17 = some false := by kernel_rfl
@[go_sem] theorem bytesT_17 : bytesT Tryz.prog 17 = some 8 := by kernel_rfl
@[go_sem] theorem zeroT_17 : zeroT Tryz.prog 17 = some [AV.any] := by kernel_rfl
@[go_sem] theorem sizeT_18 : sizeT Tryz.prog 18 = some 1 := by kernel_rfl
@[go_sem] theorem aggT_18 : aggT Tryz.prog 18 = some true := by kernel_rfl
@[go_sem] theorem bytesT_18 : bytesT Tryz.prog 18 = some 8 := by kernel_rfl
@[go_sem] theorem zeroT_18 : zeroT Tryz.prog 18 = some [AV.any] := by kernel_rfl
@[go_sem] theorem fieldT_18_0 : fieldT Tryz.prog 18 0 = some (0, 17) := by kernel_rfl
@[go_sem] theorem placesT_18 : placesT Tryz.prog 18 = some [(0, 1)] := by kernel_rfl
@[go_sem] theorem sizeT_19 : sizeT Tryz.prog 19 = some 1 := by kernel_rfl
@[go_sem] theorem aggT_19 : aggT Tryz.prog 19 = some true := by kernel_rfl
@[go_sem] theorem bytesT_19 : bytesT Tryz.prog 19 = some 8 := by kernel_rfl
@[go_sem] theorem zeroT_19 : zeroT Tryz.prog 19 = some [AV.any] := by kernel_rfl
@[go_sem] theorem fieldT_19_0 : fieldT Tryz.prog 19 0 = some (0, 17) := by kernel_rfl
@[go_sem] theorem placesT_19 : placesT Tryz.prog 19 = some [(0, 1)] := by kernel_rfl
@[go_sem] theorem sizeT_21 : sizeT Tryz.prog 21 = some 1 := by kernel_rfl
@[go_sem] theorem aggT_21 : aggT Tryz.prog 21 = some false := by kernel_rfl
@[go_sem] theorem bytesT_21 : bytesT Tryz.prog 21 = some 4 := by kernel_rfl
@[go_sem] theorem zeroT_21 : zeroT Tryz.prog 21 = some [AV.int .i32 (0)] := by kernel_rfl
@[go_sem] theorem intT_21 : intT Tryz.prog 21 = some .i32 := by kernel_rfl
@[go_sem] theorem sizeT_22 : sizeT Tryz.prog 22 = some 1 := by kernel_rfl
@[go_sem] theorem aggT_22 : aggT Tryz.prog 22 = some false := by kernel_rfl
@[go_sem] theorem bytesT_22 : bytesT Tryz.prog 22 = some 24 := by kernel_rfl
@[go_sem] theorem zeroT_22 : zeroT Tryz.prog 22 = some [AV.nils] := by kernel_rfl
@[go_sem] theorem elemT_22 : elemT Tryz.prog 22 = some 41 := by kernel_rfl
@[go_sem] theorem isBytesT_22 : isBytesT Tryz.prog 22 = false := by kernel_rfl
@[go_sem] theorem sizeT_23 : sizeT Tryz.prog 23 = some 2 := by kernel_rfl
@[go_sem] theorem aggT_23 : aggT Tryz.prog 23 = some true := by kernel_rfl
@[go_sem] theorem bytesT_23 : bytesT Tryz.prog 23 = some 32 := by kernel_rfl
@[go_sem] theorem zeroT_23 : zeroT Tryz.prog 23 = some [AV.nils, AV.int .i64 (0)] := by kernel_rfl
@[go_sem] theorem fieldT_23_0 : fieldT Tryz.prog 23 0 = some (0, 22) := by kernel_rfl
@[go_sem] theorem fieldT_23_1 : fieldT Tryz.prog 23 1 = some (1, 3) := by kernel_rfl
@[go_sem] theorem placesT_23 : placesT Tryz.prog 23 = some [(0, 1), (1, 1)] := by kernel_rfl
@[go_sem] theorem sizeT_24 : sizeT Tryz.prog 24 = some 2 := by kernel_rfl
@[go_sem] theorem aggT_24 : aggT Tryz.prog 24 = some true := by kernel_rfl
@[go_sem] theorem bytesT_24 : bytesT Tryz.prog 24 = some 32 := by kernel_rfl
@[go_sem] theorem zeroT_24 : zeroT Tryz.prog 24 = some [AV.nils, AV.int .i64 (0)] := by kernel_rfl
@[go_sem] theorem fieldT_24_0 : fieldT Tryz.prog 24 0 = some (0, 22) := by kernel_rfl
@[go_sem] theorem fieldT_24_1 : fieldT Tryz.prog 24 1 = some (1, 3) := by kernel_rfl
@[go_sem] theorem placesT_24 : placesT Tryz.prog 24 = some [(0, 1), (1, 1)] := by kernel_rfl
@[go_sem] theorem sizeT_25 : sizeT Tryz.prog 25 = some 3 := by kernel_rfl
@[go_sem] theorem aggT_25 : aggT Tryz.prog 25 = some true := by kernel_rfl
@[go_sem] theorem bytesT_25 : bytesT Tryz.prog 25 = some 40 := by kernel_rfl
@[go_sem] theorem zeroT_25 : zeroT Tryz.prog 25 = some [AV.str ⟨#[]⟩, AV.str ⟨#[]⟩, AV.int .i64 (0)] := by kernel_rfl
@[go_sem] theorem fieldT_25_0 : fieldT Tryz.prog 25 0 = some (0, 9) := by kernel_rfl
@[go_sem] theorem fieldT_25_1 : fieldT Tryz.prog 25 1 = some (1, 9) := by kernel_rfl
@[go_sem] theorem fieldT_25_2 : fieldT Tryz.prog 25 2 = some (2, 3) := by kernel_rfl
@[go_sem] theorem eqK_25 : eqK Tryz.prog 25 = some [.str, .str, .int] := by kernel_rfl
@[go_sem] theorem placesT_25 : placesT Tryz.prog 25 = some [(0, 1), (1, 1), (2, 1)] := by kernel_rfl
@[go_sem] theorem sizeT_26 : sizeT Tryz.prog 26 = some 3 := by kernel_rfl
@[go_sem] theorem aggT_26 : aggT Tryz.prog 26 = some true := by kernel_rfl
@[go_sem] theorem bytesT_26 : bytesT Tryz.prog 26 = some 40 := by kernel_rfl
@[go_sem] theorem zeroT_26 : zeroT Tryz.prog 26 = some [AV.str ⟨#[]⟩, AV.str ⟨#[]⟩, AV.int .i64 (0)] := by kernel_rfl
@[go_sem] theorem fieldT_26_0 : fieldT Tryz.prog 26 0 = some (0, 9) := by kernel_rfl
@[go_sem] theorem fieldT_26_1 : fieldT Tryz.prog 26 1 = some (1, 9) := by kernel_rfl
@[go_sem] theorem fieldT_26_2 : fieldT Tryz.prog 26 2 = some (2, 3) := by kernel_rfl
@[go_sem] theorem eqK_26 : eqK Tryz.prog 26 = some [.str, .str, .int] := by kernel_rfl
@[go_sem] theorem placesT_26 : placesT Tryz.prog 26 = some [(0, 1), (1, 1), (2, 1)] := by kernel_rfl
@[go_sem] theorem sizeT_27 : sizeT Tryz.prog 27 = some 1 := by kernel_rfl
@[go_sem] theorem aggT_27 : aggT Tryz.prog 27 = some false := by kernel_rfl
@[go_sem] theorem bytesT_27 : bytesT Tryz.prog 27 = some 8 := by kernel_rfl
@[go_sem] theorem zeroT_27 : zeroT Tryz.prog 27 = some [AV.any] := by kernel_rfl
@[go_sem] theorem sizeT_28 : sizeT Tryz.prog 28 = some 1 := by kernel_rfl
@[go_sem] theorem aggT_28 : aggT Tryz.prog 28 = some false := by kernel_rfl
@[go_sem] theorem bytesT_28 : bytesT Tryz.prog 28 = some 8 := by kernel_rfl
@[go_sem] theorem zeroT_28 : zeroT Tryz.prog 28 = some [AV.any] := by kernel_rfl
@[go_sem] theorem sizeT_29 : sizeT Tryz.prog 29 = some 1 := by kernel_rfl
@[go_sem] theorem aggT_29 : aggT Tryz.prog 29 = some false := by kernel_rfl
@[go_sem] theorem bytesT_29 : bytesT Tryz.prog 29 = some 8 := by kernel_rfl
@[go_sem] theorem zeroT_29 : zeroT Tryz.prog 29 = some [AV.any] := by kernel_rfl
@[go_sem] theorem sizeT_30 : sizeT Tryz.prog 30 = some 1 := by kernel_rfl
@[go_sem] theorem aggT_30 : aggT Tryz.prog 30 = some false := by kernel_rfl
@[go_sem] theorem bytesT_30 : bytesT Tryz.prog 30 = some 8 := by kernel_rfl
@[go_sem] theorem zeroT_30 : zeroT Tryz.prog 30 = some [AV.int .i64 (0)] := by kernel_rfl
@[go_sem] theorem intT_30 : intT Tryz.prog 30 = some .i64 := by kernel_rfl
@[go_sem] theorem sizeT_32 : sizeT Tryz.prog 32 = some 1 := by kernel_rfl
@[go_sem] theorem aggT_32 : aggT Tryz.prog 32 = some false := by kernel_rfl
@[go_sem] theorem bytesT_32 : bytesT Tryz.prog 32 = some 8 := by kernel_rfl
@[go_sem] theorem zeroT_32 : zeroT Tryz.prog 32 = some [AV.any] := by kernel_rfl
@[go_sem] theorem sizeT_33 : sizeT Tryz.prog 33 = some 1 := by kernel_rfl
@[go_sem] theorem aggT_33 : aggT Tryz.prog 33 = some false := by kernel_rfl
@[go_sem] theorem bytesT_33 : bytesT Tryz.prog 33 = some 8 := by kernel_rfl
@[go_sem] theorem zeroT_33 : zeroT Tryz.prog 33 = some [AV.any] := by kernel_rfl
@[go_sem] theorem sizeT_34 : sizeT Tryz.prog 34 = some 1 := by kernel_rfl
@[go_sem] theorem aggT_34 : aggT Tryz.prog 34 = some false := by kernel_rfl
@[go_sem] theorem bytesT_34 : bytesT Tryz.prog 34 = some 8 := by kernel_rfl
@[go_sem] theorem zeroT_34 : zeroT Tryz.prog 34 = some [AV.any] := by kernel_rfl
@[go_sem] theorem sizeT_35 : sizeT Tryz.prog 35 = some 1 := by kernel_rfl
@[go_sem] theorem aggT_35 : aggT Tryz.prog 35 = some false := by kernel_rfl
@[go_sem] theorem bytesT_35 : bytesT Tryz.prog 35 = some 8 := by kernel_rfl
@[go_sem] theorem zeroT_35 : zeroT Tryz.prog 35 = some [AV.any] := by kernel_rfl
@[go_sem] theorem sizeT_36 : sizeT Tryz.prog 36 = some 1 := by kernel_rfl
@[go_sem] theorem aggT_36 : aggT Tryz.prog 36 = some false := by kernel_rfl
@[go_sem] theorem bytesT_36 : bytesT Tryz.prog 36 = some 8 := by kernel_rfl
@[go_sem] theorem zeroT_36 : zeroT Tryz.prog 36 = some [AV.any] := by kernel_rfl
@[go_sem] theorem sizeT_37 : sizeT Tryz.prog 37 = some 1 := by kernel_rfl
@[go_sem] theorem aggT_37 : aggT Tryz.prog 37 = some false := by kernel_rfl
@[go_sem] theorem bytesT_37 : bytesT Tryz.prog 37 = some 8 := by kernel_rfl
@[go_sem] theorem zeroT_37 : zeroT Tryz.prog 37 = some [AV.any] := by kernel_rfl
@[go_sem] theorem sizeT_38 : sizeT Tryz.prog 38 = some 1 := by kernel_rfl
@[go_sem] theorem aggT_38 : aggT Tryz.prog 38 = some false := by kernel_rfl
@[go_sem] theorem bytesT_38 : bytesT Tryz.prog 38 = some 8 := by kernel_rfl
@[go_sem] theorem zeroT_38 : zeroT Tryz.prog 38 = some [AV.any] := by kernel_rfl
@[go_sem] theorem sizeT_39 : sizeT Tryz.prog 39 = some 1 := by kernel_rfl
@[go_sem] theorem aggT_39 : aggT Tryz.prog 39 = some false := by kernel_rfl
@[go_sem] theorem bytesT_39 : bytesT Tryz.prog 39 = some 8 := by kernel_rfl
@[go_sem] theorem zeroT_39 : zeroT Tryz.prog 39 = some [AV.any] := by kernel_rfl
@[go_sem] theorem sizeT_40 : sizeT Tryz.prog 40 = some 7 := by kernel_rfl
@[go_sem] theorem aggT_40 : aggT Tryz.prog 40 = some true := by kernel_rfl
@[go_sem] theorem bytesT_40 : bytesT Tryz.prog 40 = some 96 := by kernel_rfl
@[go_sem] theorem zeroT_40 : zeroT Tryz.prog 40 = some [AV.str ⟨#[]⟩, AV.str ⟨#[]⟩, AV.int .i64 (0), AV.str ⟨#[]⟩, AV.int .i64 (0), AV.str ⟨#[]⟩, AV.str ⟨#[]⟩] := by kernel_rfl
@[go_sem] theorem fieldT_40_0 : fieldT Tryz.prog 40 0 = some (0, 26) := by kernel_rfl
@[go_sem] theorem fieldT_40_1 : fieldT Tryz.prog 40 1 = some (3, 9) := by kernel_rfl
@[go_sem] theorem fieldT_40_2 : fieldT Tryz.prog 40 2 = some (4, 3) := by kernel_rfl
@[go_sem] theorem fieldT_40_3 : fieldT Tryz.prog 40 3 = some (5, 9) := by kernel_rfl
@[go_sem] theorem fieldT_40_4 : fieldT Tryz.prog 40 4 = some (6, 9) := by kernel_rfl
@[go_sem] theorem eqK_40 : eqK Tryz.prog 40 = some [.str, .str, .int, .str, .int, .str, .str] := by kernel_rfl
@[go_sem] theorem placesT_40 : placesT Tryz.prog 40 = some [(0, 3), (3, 1), (4, 1), (5, 1), (6, 1)] := by kernel_rfl
@[go_sem] theorem sizeT_41 : sizeT Tryz.prog 41 = some 7 := by kernel_rfl
@[go_sem] theorem aggT_41 : aggT Tryz.prog 41 = some true := by kernel_rfl
@[go_sem] theorem bytesT_41 : bytesT Tryz.prog 41 = some 96 := by kernel_rfl
@[go_sem] theorem zeroT_41 : zeroT Tryz.prog 41 = some [AV.str ⟨#[]⟩, AV.str ⟨#[]⟩, AV.int .i64 (0), AV.str ⟨#[]⟩, AV.int .i64 (0), AV.str ⟨#[]⟩, AV.str ⟨#[]⟩] := by kernel_rfl
@[go_sem] theorem fieldT_41_0 : fieldT Tryz.prog 41 0 = some (0, 26) := by kernel_rfl
@[go_sem] theorem fieldT_41_1 : fieldT Tryz.prog 41 1 = some (3, 9) := by kernel_rfl
@[go_sem] theorem fieldT_41_2 : fieldT Tryz.prog 41 2 = some (4, 3) := by kernel_rfl
@[go_sem] theorem fieldT_41_3 : fieldT Tryz.prog 41 3 = some (5, 9) := by kernel_rfl
@[go_sem] theorem fieldT_41_4 : fieldT Tryz.prog 41 4 = some (6, 9) := by kernel_rfl
@[go_sem] theorem eqK_41 : eqK Tryz.prog 41 = some [.str, .str, .int, .str, .int, .str, .str] := by kernel_rfl
@[go_sem] theorem placesT_41 : placesT Tryz.prog 41 = some [(0, 3), (3, 1), (4, 1), (5, 1), (6, 1)] := by kernel_rfl
@[go_sem] theorem sizeT_43 : sizeT Tryz.prog 43 = some 1 := by kernel_rfl
@[go_sem] theorem aggT_43 : aggT Tryz.prog 43 = some false := by kernel_rfl
@[go_sem] theorem bytesT_43 : bytesT Tryz.prog 43 = some 8 := by kernel_rfl
@[go_sem] theorem zeroT_43 : zeroT Tryz.prog 43 = some [AV.any] := by kernel_rfl
@[go_sem] theorem sizeT_44 : sizeT Tryz.prog 44 = some 1 := by kernel_rfl
@[go_sem] theorem aggT_44 : aggT Tryz.prog 44 = some false := by kernel_rfl
@[go_sem] theorem bytesT_44 : bytesT Tryz.prog 44 = some 8 := by kernel_rfl
@[go_sem] theorem zeroT_44 : zeroT Tryz.prog 44 = some [AV.any] := by kernel_rfl
@[go_sem] theorem sizeT_45 : sizeT Tryz.prog 45 = some 1 := by kernel_rfl
@[go_sem] theorem aggT_45 : aggT Tryz.prog 45 = some false := by kernel_rfl
@[go_sem] theorem bytesT_45 : bytesT Tryz.prog 45 = some 8 := by kernel_rfl
@[go_sem] theorem zeroT_45 : zeroT Tryz.prog 45 = some [AV.any] := by kernel_rfl
@[go_sem] theorem sizeT_46 : sizeT Tryz.prog 46 = some 3 := by kernel_rfl
@[go_sem] theorem aggT_46 : aggT Tryz.prog 46 = some true := by kernel_rfl
@[go_sem] theorem bytesT_46 : bytesT Tryz.prog 46 = some 40 := by kernel_rfl
@[go_sem] theorem zeroT_46 : zeroT Tryz.prog 46 = some [AV.str ⟨#[]⟩, AV.str ⟨#[]⟩, AV.bool false] := by kernel_rfl
@[go_sem] theorem fieldT_46_0 : fieldT Tryz.prog 46 0 = some (0, 9) := by kernel_rfl
@[go_sem] theorem fieldT_46_1 : fieldT Tryz.prog 46 1 = some (1, 9) := by kernel_rfl
@[go_sem] theorem fieldT_46_2 : fieldT Tryz.prog 46 2 = some (2, 4) := by kernel_rfl
@[go_sem] theorem eqK_46 : eqK Tryz.prog 46 = some [.str, .str, .bool] := by kernel_rfl
@[go_sem] theorem placesT_46 : placesT Tryz.prog 46 = some [(0, 1), (1, 1), (2, 1)] := by kernel_rfl
@[go_sem] theorem sizeT_47 : sizeT Tryz.prog 47 = some 3 := by kernel_rfl
@[go_sem] theorem aggT_47 : aggT Tryz.prog 47 = some true := by kernel_rfl
@[go_sem] theorem bytesT_47 : bytesT Tryz.prog 47 = some 40 := by kernel_rfl
@[go_sem] theorem zeroT_47 : zeroT Tryz.prog 47 = some [AV.str ⟨#[]⟩, AV.str ⟨#[]⟩, AV.bool false] := by kernel_rfl
@[go_sem] theorem fieldT_47_0 : fieldT Tryz.prog 47 0 = some (0, 9) := by kernel_rfl
@[go_sem] theorem fieldT_47_1 : fieldT Tryz.prog 47 1 = some (1, 9) := by kernel_rfl
@[go_sem] theorem fieldT_47_2 : fieldT Tryz.prog 47 2 = some (2, 4) := by kernel_rfl
@[go_sem] theorem eqK_47 : eqK Tryz.prog 47 = some [.str, .str, .bool] := by kernel_rfl
@[go_sem] theorem placesT_47 : placesT Tryz.prog 47 = some [(0, 1), (1, 1), (2, 1)] := by kernel_rfl
@[go_sem] theorem sizeT_48 : sizeT Tryz.prog 48 = some 4 := by kernel_rfl
@[go_sem] theorem aggT_48 : aggT Tryz.prog 48 = some true := by kernel_rfl
@[go_sem] theorem bytesT_48 : bytesT Tryz.prog 48 = some 48 := by kernel_rfl
@[go_sem] theorem zeroT_48 : zeroT Tryz.prog 48 = some [AV.str ⟨#[]⟩, AV.str ⟨#[]⟩, AV.bool false, AV.int .i64 (0)] := by kernel_rfl
@[go_sem] theorem fieldT_48_0 : fieldT Tryz.prog 48 0 = some (0, 47) := by kernel_rfl
@[go_sem] theorem fieldT_48_1 : fieldT Tryz.prog 48 1 = some (3, 3) := by kernel_rfl
@[go_sem] theorem eqK_48 : eqK Tryz.prog 48 = some [.str, .str, .bool, .int] := by kernel_rfl
@[go_sem] theorem placesT_48 : placesT Tryz.prog 48 = some [(0, 3), (3, 1)] := by kernel_rfl
@[go_sem] theorem sizeT_49 : sizeT Tryz.prog 49 = some 4 := by kernel_rfl
@[go_sem] theorem aggT_49 : aggT Tryz.prog 49 = some true := by kernel_rfl
@[go_sem] theorem bytesT_49 : bytesT Tryz.prog 49 = some 48 := by kernel_rfl
@[go_sem] theorem zeroT_49 : zeroT Tryz.prog 49 = some [AV.str ⟨#[]⟩, AV.str ⟨#[]⟩, AV.bool false, AV.int .i64 (0)] := by kernel_rfl
@[go_sem] theorem fieldT_49_0 : fieldT Tryz.prog 49 0 = some (0, 47) := by kernel_rfl
@[go_sem] theorem fieldT_49_1 : fieldT Tryz.prog 49 1 = some (3, 3) := by kernel_rfl
@[go_sem] theorem eqK_49 : eqK Tryz.prog 49 = some [.str, .str, .bool, .int] := by kernel_rfl
@[go_sem] theorem placesT_49 : placesT Tryz.prog 49 = some [(0, 3), (3, 1)] := by kernel_rfl
@[go_sem] theorem sizeT_50 : sizeT Tryz.prog 50 = some 1 := by kernel_rfl
@[go_sem] theorem aggT_50 : aggT Tryz.prog 50 = some false := by kernel_rfl
@[go_sem] theorem bytesT_50 : bytesT Tryz.prog 50 = some 24 := by kernel_rfl
@[go_sem] theorem zeroT_50 : zeroT Tryz.prog 50 = some [AV.nils] := by kernel_rfl
@[go_sem] theorem elemT_50 : elemT Tryz.prog 50 = some 57 := by kernel_rfl
@[go_sem] theorem isBytesT_50 : isBytesT Tryz.prog 50 = false := by kernel_rfl
@[go_sem] theorem sizeT_51 : sizeT Tryz.prog 51 = some 1 := by kernel_rfl
@[go_sem] theorem aggT_51 : aggT Tryz.prog 51 = some false := by kernel_rfl
@[go_sem] theorem bytesT_51 : bytesT Tryz.prog 51 = some 24 := by kernel_rfl
@[go_sem] theorem zeroT_51 : zeroT Tryz.prog 51 = some [AV.nils] := by kernel_rfl
@[go_sem] theorem elemT_51 : elemT Tryz.prog 51 = some 9 := by kernel_rfl
@[go_sem] theorem isBytesT_51 : isBytesT Tryz.prog 51 = false := by kernel_rfl
@[go_sem] theorem sizeT_52 : sizeT Tryz.prog 52 = some 3 := by kernel_rfl
@[go_sem] theorem aggT_52 : aggT Tryz.prog 52 = some true := by kernel_rfl
@[go_sem] theorem bytesT_52 : bytesT Tryz.prog 52 = some 64 := by kernel_rfl
@[go_sem] theorem zeroT_52 : zeroT Tryz.prog 52 = some [AV.nils, AV.str ⟨#[]⟩, AV.nils] := by kernel_rfl
@[go_sem] theorem fieldT_52_0 : fieldT Tryz.prog 52 0 = some (0, 51) := by kernel_rfl
@[go_sem] theorem fieldT_52_1 : fieldT Tryz.prog 52 1 = some (1, 9) := by kernel_rfl
@[go_sem] theorem fieldT_52_2 : fieldT Tryz.prog 52 2 = some (2, 51) := by kernel_rfl
@[go_sem] theorem placesT_52 : placesT Tryz.prog 52 = some [(0, 1), (1, 1), (2, 1)] := by kernel_rfl
@[go_sem] theorem sizeT_53 : sizeT Tryz.prog 53 = some 3 := by kernel_rfl
@[go_sem] theorem aggT_53 : aggT Tryz.prog 53 = some true := by kernel_rfl
@[go_sem] theorem bytesT_53 : bytesT Tryz.prog 53 = some 64 := by kernel_rfl
@[go_sem] theorem zeroT_53 : zeroT Tryz.prog 53 = some [AV.nils, AV.str ⟨#[]⟩, AV.nils] := by kernel_rfl
@[go_sem] theorem fieldT_53_0 : fieldT Tryz.prog 53 0 = some (0, 51) := by kernel_rfl
@[go_sem] theorem fieldT_53_1 : fieldT Tryz.prog 53 1 = some (1, 9) := by kernel_rfl
@[go_sem] theorem fieldT_53_2 : fieldT Tryz.prog 53 2 = some (2, 51) := by kernel_rfl
@[go_sem] theorem placesT_53 : placesT Tryz.prog 53 = some [(0, 1), (1, 1), (2, 1)] := by kernel_rfl
@[go_sem] theorem sizeT_54 : sizeT Tryz.prog 54 = some 1 := by kernel_rfl
@[go_sem] theorem aggT_54 : aggT Tryz.prog 54 = some false := by kernel_rfl
@[go_sem] theorem bytesT_54 : bytesT Tryz.prog 54 = some 8 := by kernel_rfl
@[go_sem] theorem zeroT_54 : zeroT Tryz.prog 54 = some [AV.any] := by kernel_rfl
@[go_sem] theorem sizeT_55 : sizeT Tryz.prog 55 = some 1 := by kernel_rfl
@[go_sem] theorem aggT_55 : aggT Tryz.prog 55 = some false := by kernel_rfl
@[go_sem] theorem bytesT_55 : bytesT Tryz.prog 55 = some 8 := by kernel_rfl
@[go_sem] theorem zeroT_55 : zeroT Tryz.prog 55 = some [AV.any] := by kernel_rfl
@[go_sem] theorem sizeT_56 : sizeT Tryz.prog 56 = some 7 := by kernel_rfl
@[go_sem] theorem aggT_56 : aggT Tryz.prog 56 = some true := by kernel_rfl
@[go_sem] theorem bytesT_56 : bytesT Tryz.prog 56 = some 88 := by kernel_rfl
@[go_sem] theorem zeroT_56 : zeroT Tryz.prog 56 = some [AV.int .u8 (0), AV.str ⟨#[]⟩, AV.str ⟨#[]⟩, AV.int .i64 (0), AV.str ⟨#[]⟩, AV.str ⟨#[]⟩, AV.int .i64 (0)] := by kernel_rfl
@[go_sem] theorem fieldT_56_0 : fieldT Tryz.prog 56 0 = some (0, 5) := by kernel_rfl
@[go_sem] theorem fieldT_56_1 : fieldT Tryz.prog 56 1 = some (1, 26) := by kernel_rfl
@[go_sem] theorem fieldT_56_2 : fieldT Tryz.prog 56 2 = some (4, 26) := by kernel_rfl
@[go_sem] theorem eqK_56 : eqK Tryz.prog 56 = some [.int, .str, .str, .int, .str, .str, .int] := by kernel_rfl
@[go_sem] theorem placesT_56 : placesT Tryz.prog 56 = some [(0, 1), (1, 3), (4, 3)] := by kernel_rfl
@[go_sem] theorem sizeT_57 : sizeT Tryz.prog 57 = some 7 := by kernel_rfl
@[go_sem] theorem aggT_57 : aggT Tryz.prog 57 = some true := by kernel_rfl
@[go_sem] theorem bytesT_57 : bytesT Tryz.prog 57 = some 88 := by kernel_rfl
@[go_sem] theorem zeroT_57 : zeroT Tryz.prog 57 = some [AV.int .u8 (0), AV.str ⟨#[]⟩, AV.str ⟨#[]⟩, AV.int .i64 (0), AV.str ⟨#[]⟩, AV.str ⟨#[]⟩, AV.int .i64 (0)] := by kernel_rfl
@[go_sem] theorem fieldT_57_0 : fieldT Tryz.prog 57 0 = some (0, 5) := by kernel_rfl
@[go_sem] theorem fieldT_57_1 : fieldT Tryz.prog 57 1 = some (1, 26) := by kernel_rfl
@[go_sem] theorem fieldT_57_2 : fieldT Tryz.prog 57 2 = some (4, 26) := by kernel_rfl
@[go_sem] theorem eqK_57 : eqK Tryz.prog 57 = some [.int, .str, .str, .int, .str, .str, .int] := by kernel_rfl
@[go_sem] theorem placesT_57 : placesT Tryz.prog 57 = some [(0, 1), (1, 3), (4, 3)] := by kernel_rfl
@[go_sem] theorem sizeT_59 : sizeT Tryz.prog 59 = some 1 := by kernel_rfl
@[go_sem] theorem aggT_59 : aggT Tryz.prog 59 = some false := by kernel_rfl
@[go_sem] theorem bytesT_59 : bytesT Tryz.prog 59 = some 8 := by kernel_rfl
@[go_sem] theorem zeroT_59 : zeroT Tryz.prog 59 = some [AV.any] := by kernel_rfl
@[go_sem] theorem sizeT_60 : sizeT Tryz.prog 60 = some 1 := by kernel_rfl
@[go_sem] theorem aggT_60 : aggT Tryz.prog 60 = some false := by kernel_rfl
@[go_sem] theorem bytesT_60 : bytesT Tryz.prog 60 = some 8 := by kernel_rfl
@[go_sem] theorem zeroT_60 : zeroT Tryz.prog 60 = some [AV.any] := by kernel_rfl
@[go_sem] theorem sizeT_61 : sizeT Tryz.prog 61 = some 1 := by kernel_rfl
@[go_sem] theorem aggT_61 : aggT Tryz.prog 61 = some false := by kernel_rfl
@[go_sem] theorem bytesT_61 : bytesT Tryz.prog 61 = some 8 := by kernel_rfl
@[go_sem] theorem zeroT_61 : zeroT Tryz.prog 61 = some [AV.any] := by kernel_rfl
@[go_sem] theorem sizeT_62 : sizeT Tryz.prog 62 = some 1 := by kernel_rfl
@[go_sem] theorem aggT_62 : aggT Tryz.prog 62 = some false := by kernel_rfl
@[go_sem] theorem bytesT_62 : bytesT Tryz.prog 62 = some 8 := by kernel_rfl
@[go_sem] theorem zeroT_62 : zeroT Tryz.prog 62 = some [AV.any] := by kernel_rfl
@[go_sem] theorem sizeT_63 : sizeT Tryz.prog 63 = some 1 := by kernel_rfl
@[go_sem] theorem aggT_63 : aggT Tryz.prog 63 = some false := by kernel_rfl
@[go_sem] theorem bytesT_63 : bytesT Tryz.prog 63 = some 8 := by kernel_rfl
@[go_sem] theorem zeroT_63 : zeroT Tryz.prog 63 = some [AV.any] := by kernel_rfl
@[go_sem] theorem sizeT_64 : sizeT Tryz.prog 64 = some 3 := by kernel_rfl
@[go_sem] theorem aggT_64 : aggT Tryz.prog 64 = some true := by kernel_rfl
@[go_sem] theorem bytesT_64 : bytesT Tryz.prog 64 = some 40 := by kernel_rfl
@[go_sem] theorem zeroT_64 : zeroT Tryz.prog 64 = some [AV.str ⟨#[]⟩, AV.int .i64 (0), AV.str ⟨#[]⟩] := by kernel_rfl
@[go_sem] theorem fieldT_64_0 : fieldT Tryz.prog 64 0 = some (0, 9) := by kernel_rfl
@[go_sem] theorem fieldT_64_1 : fieldT Tryz.prog 64 1 = some (1, 3) := by kernel_rfl
@[go_sem] theorem fieldT_64_2 : fieldT Tryz.prog 64 2 = some (2, 9) := by kernel_rfl
@[go_sem] theorem eqK_64 : eqK Tryz.prog 64 = some [.str, .int, .str] := by kernel_rfl
@[go_sem] theorem placesT_64 : placesT Tryz.prog 64 = some [(0, 1), (1, 1), (2, 1)] := by kernel_rfl
@[go_sem] theorem sizeT_65 : sizeT Tryz.prog 65 = some 3 := by kernel_rfl
@[go_sem] theorem aggT_65 : aggT Tryz.prog 65 = some true := by kernel_rfl
@[go_sem] theorem bytesT_65 : bytesT Tryz.prog 65 = some 40 := by kernel_rfl
@[go_sem] theorem zeroT_65 : zeroT Tryz.prog 65 = some [AV.str ⟨#[]⟩, AV.int .i64 (0), AV.str ⟨#[]⟩] := by kernel_rfl
@[go_sem] theorem fieldT_65_0 : fieldT Tryz.prog 65 0 = some (0, 9) := by kernel_rfl
@[go_sem] theorem fieldT_65_1 : fieldT Tryz.prog 65 1 = some (1, 3) := by kernel_rfl
@[go_sem] theorem fieldT_65_2 : fieldT Tryz.prog 65 2 = some (2, 9) := by kernel_rfl
@[go_sem] theorem eqK_65 : eqK Tryz.prog 65 = some [.str, .int, .str] := by kernel_rfl
@[go_sem] theorem placesT_65 : placesT Tryz.prog 65 = some [(0, 1), (1, 1), (2, 1)] := by kernel_rfl
@[go_sem] theorem sizeT_66 : sizeT Tryz.prog 66 = some 8 := by kernel_rfl
@[go_sem] theorem aggT_66 : aggT Tryz.prog 66 = some true := by kernel_rfl
@[go_sem] theorem bytesT_66 : bytesT Tryz.prog 66 = some 136 := by kernel_rfl
@[go_sem] theorem zeroT_66 : zeroT Tryz.prog 66 = some [AV.nils, AV.int .i64 (0), AV.nils, AV.str ⟨#[]⟩, AV.nils, AV.str ⟨#[]⟩, AV.int .i64 (0), AV.str ⟨#[]⟩] := by kernel_rfl
@[go_sem] theorem fieldT_66_0 : fieldT Tryz.prog 66 0 = some (0, 24) := by kernel_rfl
@[go_sem] theorem fieldT_66_1 : fieldT Tryz.prog 66 1 = some (2, 53) := by kernel_rfl
@[go_sem] theorem fieldT_66_2 : fieldT Tryz.prog 66 2 = some (5, 65) := by kernel_rfl
@[go_sem] theorem placesT_66 : placesT Tryz.prog 66 = some [(0, 2), (2, 3), (5, 3)] := by kernel_rfl
@[go_sem] theorem sizeT_67 : sizeT Tryz.prog 67 = some 8 := by kernel_rfl
@[go_sem] theorem aggT_67 : aggT Tryz.prog 67 = some true := by kernel_rfl
@[go_sem] theorem bytesT_67 : bytesT Tryz.prog 67 = some 136 := by kernel_rfl
@[go_sem] theorem zeroT_67 : zeroT Tryz.prog 67 = some [AV.nils, AV.int .i64 (0), AV.nils, AV.str ⟨#[]⟩, AV.nils, AV.str ⟨#[]⟩, AV.int .i64 (0), AV.str ⟨#[]⟩] := by kernel_rfl
@[go_sem] theorem fieldT_67_0 : fieldT Tryz.prog 67 0 = some (0, 24) := by kernel_rfl
@[go_sem] theorem fieldT_67_1 : fieldT Tryz.prog 67 1 = some (2, 53) := by kernel_rfl
@[go_sem] theorem fieldT_67_2 : fieldT Tryz.prog 67 2 = some (5, 65) := by kernel_rfl
@[go_sem] theorem placesT_67 : placesT Tryz.prog 67 = some [(0, 2), (2, 3), (5, 3)] := by kernel_rfl
@[go_sem] theorem sizeT_68 : sizeT Tryz.prog 68 = some 1 := by kernel_rfl
@[go_sem] theorem aggT_68 : aggT Tryz.prog 68 = some false := by kernel_rfl
@[go_sem] theorem bytesT_68 : bytesT Tryz.prog 68 = some 8 := by kernel_rfl
@[go_sem] theorem zeroT_68 : zeroT Tryz.prog 68 = some [AV.any] := by kernel_rfl
@[go_sem] theorem sizeT_69 : sizeT Tryz.prog 69 = some 1 := by kernel_rfl
@[go_sem] theorem aggT_69 : aggT Tryz.prog 69 = some false := by kernel_rfl
@[go_sem] theorem bytesT_69 : bytesT Tryz.prog 69 = some 8 := by kernel_rfl
@[go_sem] theorem zeroT_69 : zeroT Tryz.prog 69 = some [AV.any] := by kernel_rfl
@[go_sem] theorem sizeT_71 : sizeT Tryz.prog 71 = some 1 := by kernel_rfl
@[go_sem] theorem aggT_71 : aggT Tryz.prog 71 = some false := by kernel_rfl
@[go_sem] theorem bytesT_71 : bytesT Tryz.prog 71 = some 8 := by kernel_rfl
@[go_sem] theorem zeroT_71 : zeroT Tryz.prog 71 = some [AV.any] := by kernel_rfl
@[go_sem] theorem sizeT_73 : sizeT Tryz.prog 73 = some 1 := by kernel_rfl
@[go_sem] theorem aggT_73 : aggT Tryz.prog 73 = some false := by kernel_rfl
@[go_sem] theorem bytesT_73 : bytesT Tryz.prog 73 = some 8 := by kernel_rfl
@[go_sem] theorem zeroT_73 : zeroT Tryz.prog 73 = some [AV.any] := by kernel_rfl
@[go_sem] theorem sizeT_75 : sizeT Tryz.prog 75 = some 1 := by kernel_rfl
@[go_sem] theorem aggT_75 : aggT Tryz.prog 75 = some false := by kernel_rfl
@[go_sem] theorem bytesT_75 : bytesT Tryz.prog 75 = some 8 := by kernel_rfl
@[go_sem] theorem zeroT_75 : zeroT Tryz.prog 75 = some [AV.any] := by kernel_rfl
@[go_sem] theorem sizeT_76 : sizeT Tryz.prog 76 = some 1 := by kernel_rfl
@[go_sem] theorem aggT_76 : aggT Tryz.prog 76 = some false := by kernel_rfl
@[go_sem] theorem bytesT_76 : bytesT Tryz.prog 76 = some 8 := by kernel_rfl
@[go_sem] theorem zeroT_76 : zeroT Tryz.prog 76 = some [AV.any] := by kernel_rfl
@[go_sem] theorem sizeT_77 : sizeT Tryz.prog 77 = some 1 := by kernel_rfl
@[go_sem] theorem aggT_77 : aggT Tryz.prog 77 = some false := by kernel_rfl
@[go_sem] theorem bytesT_77 : bytesT Tryz.prog 77 = some 8 := by kernel_rfl
@[go_sem] theorem zeroT_77 : zeroT Tryz.prog 77 = some [AV.any] := by kernel_rfl
@[go_sem] theorem sizeT_78 : sizeT Tryz.prog 78 = some 1 := by kernel_rfl
@[go_sem] theorem aggT_78 : aggT Tryz.prog 78 = some false := by kernel_rfl
@[go_sem] theorem bytesT_78 : bytesT Tryz.prog 78 = some 8 := by kernel_rfl
@[go_sem] theorem zeroT_78 : zeroT Tryz.prog 78 = some [AV.any] := by kernel_rfl
@[go_sem] theorem sizeT_79 : sizeT Tryz.prog 79 = some 1 := by kernel_rfl
@[go_sem] theorem aggT_79 : aggT Tryz.prog 79 = some false := by kernel_rfl
@[go_sem] theorem bytesT_79 : bytesT Tryz.prog 79 = some 8 := by kernel_rfl
@[go_sem] theorem zeroT_79 : zeroT Tryz.prog 79 = some [AV.any] := by kernel_rfl
@[go_sem] theorem sizeT_81 : sizeT Tryz.prog 81 = some 1 := by kernel_rfl
@[go_sem] theorem aggT_81 : aggT Tryz.prog 81 = some false := by kernel_rfl
@[go_sem] theorem bytesT_81 : bytesT Tryz.prog 81 = some 8 := by kernel_rfl
@[go_sem] theorem zeroT_81 : zeroT Tryz.prog 81 = some [AV.any] := by kernel_rfl
@[go_sem] theorem sizeT_82 : sizeT Tryz.prog 82 = some 1 := by kernel_rfl
@[go_sem] theorem aggT_82 : aggT Tryz.prog 82 = some false := by kernel_rfl
@[go_sem] theorem bytesT_82 : bytesT Tryz.prog 82 = some 8 := by kernel_rfl
@[go_sem] theorem zeroT_82 : zeroT Tryz.prog 82 = some [AV.any] := by kernel_rfl
@[go_sem] theorem sizeT_83 : sizeT Tryz.prog 83 = some 1 := by kernel_rfl
@[go_sem] theorem aggT_83 : aggT Tryz.prog 83 = some false := by kernel_rfl
@[go_sem] theorem bytesT_83 : bytesT Tryz.prog 83 = some 8 := by kernel_rfl
@[go_sem] theorem zeroT_83 : zeroT Tryz.prog 83 = some [AV.any] := by kernel_rfl
@[go_sem] theorem sizeT_84 : sizeT Tryz.prog 84 = some 1 := by kernel_rfl
@[go_sem] theorem aggT_84 : aggT Tryz.prog 84 = some false := by kernel_rfl
@[go_sem] theorem bytesT_84 : bytesT Tryz.prog 84 = some 8 := by kernel_rfl
@[go_sem] theorem zeroT_84 : zeroT Tryz.prog 84 = some [AV.any] := by kernel_rfl
@[go_sem] theorem sizeT_85 : sizeT Tryz.prog 85 = some 1 := by kernel_rfl
@[go_sem] theorem aggT_85 : aggT Tryz.prog 85 = some false := by kernel_rfl
@[go_sem] theorem bytesT_85 : bytesT Tryz.prog 85 = some 8 := by kernel_rfl
@[go_sem] theorem zeroT_85 : zeroT Tryz.prog 85 = some [AV.any] := by kernel_rfl
@[go_sem] theorem sizeT_86 : sizeT Tryz.prog 86 = some 1 := by kernel_rfl
@[go_sem] theorem aggT_86 : aggT Tryz.prog 86 = some false := by kernel_rfl
@[go_sem] theorem bytesT_86 : bytesT Tryz.prog 86 = some 8 := by kernel_rfl
@[go_sem] theorem zeroT_86 : zeroT Tryz.prog 86 = some [AV.any] := by kernel_rfl
@[go_sem] theorem sizeT_87 : sizeT Tryz.prog 87 = some 1 := by kernel_rfl
@[go_sem] theorem aggT_87 : aggT Tryz.prog 87 = some false := by kernel_rfl
@[go_sem] theorem bytesT_87 : bytesT Tryz.prog 87 = some 8 := by kernel_rfl
@[go_sem] theorem zeroT_87 : zeroT Tryz.prog 87 = some [AV.any] := by kernel_rfl
@[go_sem] theorem sizeT_88 : sizeT Tryz.prog 88 = some 1 := by kernel_rfl
@[go_sem] theorem aggT_88 : aggT Tryz.prog 88 = some false := by kernel_rfl
@[go_sem] theorem bytesT_88 : bytesT Tryz.prog 88 = some 8 := by kernel_rfl
@[go_sem] theorem zeroT_88 : zeroT Tryz.prog 88 = some [AV.any] := by kernel_rfl
@[go_sem] theorem sizeT_89 : sizeT Tryz.prog 89 = some 1 := by kernel_rfl
@[go_sem] theorem aggT_89 : aggT Tryz.prog 89 = some false := by kernel_rfl
@[go_sem] theorem bytesT_89 : bytesT Tryz.prog 89 = some 8 := by kernel_rfl
@[go_sem] theorem zeroT_89 : zeroT Tryz.prog 89 = some [AV.any] := by kernel_rfl
@[go_sem] theorem sizeT_90 : sizeT Tryz.prog 90 = some 1 := by kernel_rfl
@[go_sem] theorem aggT_90 : aggT Tryz.prog 90 = some false := by kernel_rfl
@[go_sem] theorem bytesT_90 : bytesT Tryz.prog 90 = some 8 := by kernel_rfl
@[go_sem] theorem zeroT_90 : zeroT Tryz.prog 90 = some [AV.any] := by kernel_rfl
@[go_sem] theorem sizeT_91 : sizeT Tryz.prog 91 = some 1 := by kernel_rfl
@[go_sem] theorem aggT_91 : aggT Tryz.prog 91 = some false := by kernel_rfl
@[go_sem] theorem bytesT_91 : bytesT Tryz.prog 91 = some 8 := by kernel_rfl
@[go_sem] theorem zeroT_91 : zeroT Tryz.prog 91 = some [AV.any] := by kernel_rfl
@[go_sem] theorem sizeT_92 : sizeT Tryz.prog 92 = some 1 := by kernel_rfl
@[go_sem] theorem aggT_92 : aggT Tryz.prog 92 = some false := by kernel_rfl
@[go_sem] theorem bytesT_92 : bytesT Tryz.prog 92 = some 8 := by kernel_rfl
@[go_sem] theorem zeroT_92 : zeroT Tryz.prog 92 = some [AV.any] := by kernel_rfl
@[go_sem] theorem sizeT_93 : sizeT Tryz.prog 93 = some 1 := by kernel_rfl
@[go_sem] theorem aggT_93 : aggT Tryz.prog 93 = some false := by kernel_rfl
@[go_sem] theorem bytesT_93 : bytesT Tryz.prog 93 = some 8 := by kernel_rfl
@[go_sem] theorem zeroT_93 : zeroT Tryz.prog 93 = some [AV.any] := by kernel_rfl
@[go_sem] theorem sizeT_94 : sizeT Tryz.prog 94 = some 1 := by kernel_rfl
@[go_sem] theorem aggT_94 : aggT Tryz.prog 94 = some false := by kernel_rfl
@[go_sem] theorem bytesT_94 : bytesT Tryz.prog 94 = some 8 := by kernel_rfl
@[go_sem] theorem zeroT_94 : zeroT Tryz.prog 94 = some [AV.any] := by kernel_rfl
@[go_sem] theorem sizeT_95 : sizeT Tryz.prog 95 = some 1 := by kernel_rfl
@[go_sem] theorem aggT_95 : aggT Tryz.prog 95 = some false := by kernel_rfl
@[go_sem] theorem bytesT_95 : bytesT Tryz.prog 95 = some 8 := by kernel_rfl
@[go_sem] theorem zeroT_95 : zeroT Tryz.prog 95 = some [AV.any] := by kernel_rfl
@[go_sem] theorem sizeT_96 : sizeT Tryz.prog 96 = some 1 := by kernel_rfl
@[go_sem] theorem aggT_96 : aggT Tryz.prog 96 = some false := by kernel_rfl
@[go_sem] theorem bytesT_96 : bytesT Tryz.prog 96 = some 8 := by kernel_rfl
@[go_sem] theorem zeroT_96 : zeroT Tryz.prog 96 = some [AV.any] := by kernel_rfl
@[go_sem] theorem sizeT_97 : sizeT Tryz.prog 97 = some 1 := by kernel_rfl
@[go_sem] theorem aggT_97 : aggT Tryz.prog 97 = some false := by kernel_rfl
@[go_sem] theorem bytesT_97 : bytesT Tryz.prog 97 = some 8 := by kernel_rfl
@[go_sem] theorem zeroT_97 : zeroT Tryz.prog 97 = some [AV.any] := by kernel_rfl
@[go_sem] theorem sizeT_99 : sizeT Tryz.prog 99 = some 1 := by kernel_rfl
@[go_sem] theorem aggT_99 : aggT Tryz.prog 99 = some false := by kernel_rfl
@[go_sem] theorem bytesT_99 : bytesT Tryz.prog 99 = some 8 := by kernel_rfl
@[go_sem] theorem zeroT_99 : zeroT Tryz.prog 99 = some [AV.any] := by kernel_rfl
@[go_sem] theorem sizeT_100 : sizeT Tryz.prog 100 = some 1 := by kernel_rfl
@[go_sem] theorem aggT_100 : aggT Tryz.prog 100 = some false := by kernel_rfl
@[go_sem] theorem bytesT_100 : bytesT Tryz.prog 100 = some 8 := by kernel_rfl
@[go_sem] theorem zeroT_100 : zeroT Tryz.prog 100 = some [AV.any] := by kernel_rfl
@[go_sem] theorem sizeT_101 : sizeT Tryz.prog 101 = some 1 := by kernel_rfl
@[go_sem] theorem aggT_101 : aggT Tryz.prog 101 = some false := by kernel_rfl
@[go_sem] theorem bytesT_101 : bytesT Tryz.prog 101 = some 8 := by kernel_rfl
@[go_sem] theorem zeroT_101 : zeroT Tryz.prog 101 = some [AV.any] := by kernel_rfl
@[go_sem] theorem sizeT_102 : sizeT Tryz.prog 102 = some 1 := by kernel_rfl
@[go_sem] theorem aggT_102 : aggT Tryz.prog 102 = some false := by kernel_rfl
@[go_sem] theorem bytesT_102 : bytesT Tryz.prog 102 = some 8 := by kernel_rfl
@[go_sem] theorem zeroT_102 : zeroT Tryz.prog 102 = some [AV.any] := by kernel_rfl
@[go_sem] theorem sizeT_103 : sizeT Tryz.prog 103 = some 1 := by kernel_rfl
@[go_sem] theorem aggT_103 : aggT Tryz.prog 103 = some false := by kernel_rfl
@[go_sem] theorem bytesT_103 : bytesT Tryz.prog 103 = some 8 := by kernel_rfl
@[go_sem] theorem zeroT_103 : zeroT Tryz.prog 103 = some [AV.any] := by kernel_rfl
@[go_sem] theorem sizeT_104 : sizeT Tryz.prog 104 = some 1 := by kernel_rfl
@[go_sem] theorem aggT_104 : aggT Tryz.prog 104 = some false := by kernel_rfl
@[go_sem] theorem bytesT_104 : bytesT Tryz.prog 104 = some 8 := by kernel_rfl
@[go_sem] theorem zeroT_104 : zeroT Tryz.prog 104 = some [AV.any] := by kernel_rfl
@[go_sem] theorem sizeT_105 : sizeT Tryz.prog 105 = some 1 := by kernel_rfl
@[go_sem] theorem aggT_105 : aggT Tryz.prog 105 = some false := by kernel_rfl
@[go_sem] theorem bytesT_105 : bytesT Tryz.prog 105 = some 8 := by kernel_rfl
@[go_sem] theorem zeroT_105 : zeroT Tryz.prog 105 = some [AV.any] := by kernel_rfl
@[go_sem] theorem sizeT_106 : sizeT Tryz.prog 106 = some 1 := by kernel_rfl
@[go_sem] theorem aggT_106 : aggT Tryz.prog 106 = some false := by kernel_rfl
@[go_sem] theorem bytesT_106 : bytesT Tryz.prog 106 = some 8 := by kernel_rfl
@[go_sem] theorem zeroT_106 : zeroT Tryz.prog 106 = some [AV.any] := by kernel_rfl
@[go_sem] theorem sizeT_108 : sizeT Tryz.prog 108 = some 1 := by kernel_rfl
@[go_sem] theorem aggT_108 : aggT Tryz.prog 108 = some false := by kernel_rfl
@[go_sem] theorem bytesT_108 : bytesT Tryz.prog 108 = some 8 := by kernel_rfl
@[go_sem] theorem zeroT_108 : zeroT Tryz.prog 108 = some [AV.any] := by kernel_rfl
@[go_sem] theorem sizeT_110 : sizeT Tryz.prog 110 = some 1 := by kernel_rfl
@[go_sem] theorem aggT_110 : aggT Tryz.prog 110 = some false := by kernel_rfl
@[go_sem] theorem bytesT_110 : bytesT Tryz.prog 110 = some 8 := by kernel_rfl
@[go_sem] theorem zeroT_110 : zeroT Tryz.prog 110 = some [AV.any] := by kernel_rfl
@[go_sem] theorem sizeT_111 : sizeT Tryz.prog 111 = some 1 := by kernel_rfl
@[go_sem] theorem aggT_111 : aggT Tryz.prog 111 = some false := by kernel_rfl
@[go_sem] theorem bytesT_111 : bytesT Tryz.prog 111 = some 8 := by kernel_rfl
@[go_sem] theorem zeroT_111 : zeroT Tryz.prog 111 = some [AV.any] := by kernel_rfl
@[go_sem] theorem sizeT_112 : sizeT Tryz.prog 112 = some 1 := by kernel_rfl
@[go_sem] theorem aggT_112 : aggT Tryz.prog 112 = some false := by kernel_rfl
@[go_sem] theorem bytesT_112 : bytesT Tryz.prog 112 = some 8 := by kernel_rfl
@[go_sem] theorem zeroT_112 : zeroT Tryz.prog 112 = some [AV.any] := by kernel_rfl
@[go_sem] theorem sizeT_113 : sizeT Tryz.prog 113 = some 1 := by kernel_rfl
@[go_sem] theorem aggT_113 : aggT Tryz.prog 113 = some false := by kernel_rfl
@[go_sem] theorem bytesT_113 : bytesT Tryz.prog 113 = some 8 := by kernel_rfl
@[go_sem] theorem zeroT_113 : zeroT Tryz.prog 113 = some [AV.any] := by kernel_rfl
@[go_sem] theorem sizeT_114 : sizeT Tryz.prog 114 = some 1 := by kernel_rfl
@[go_sem] theorem aggT_114 : aggT Tryz.prog 114 = some false := by kernel_rfl
@[go_sem] theorem bytesT_114 : bytesT Tryz.prog 114 = some 8 := by kernel_rfl
@[go_sem] theorem zeroT_114 : zeroT Tryz.prog 114 = some [AV.any] := by kernel_rfl
@[go_sem] theorem sizeT_115 : sizeT Tryz.prog 115 = some 1 := by kernel_rfl
@[go_sem] theorem aggT_115 : aggT Tryz.prog 115 = some false := by kernel_rfl
@[go_sem] theorem bytesT_115 : bytesT Tryz.prog 115 = some 8 := by kernel_rfl
@[go_sem] theorem zeroT_115 : zeroT Tryz.prog 115 = some [AV.any] := by kernel_rfl
@[go_sem] theorem sizeT_116 : sizeT Tryz.prog 116 = some 1 := by kernel_rfl
@[go_sem] theorem aggT_116 : aggT Tryz.prog 116 = some false := by kernel_rfl
@[go_sem] theorem bytesT_116 : bytesT Tryz.prog 116 = some 8 := by kernel_rfl
@[go_sem] theorem zeroT_116 : zeroT Tryz.prog 116 = some [AV.any] := by kernel_rfl
@[go_sem] theorem sizeT_117 : sizeT Tryz.prog 117 = some 1 := by kernel_rfl
@[go_sem] theorem aggT_117 : aggT Tryz.prog 117 = some false := by kernel_rfl
@[go_sem] theorem bytesT_117 : bytesT Tryz.prog 117 = some 8 := by kernel_rfl
@[go_sem] theorem zeroT_117 : zeroT Tryz.prog 117 = some [AV.any] := by kernel_rfl
@[go_sem] theorem sizeT_118 : sizeT Tryz.prog 118 = some 1 := by kernel_rfl
@[go_sem] theorem aggT_118 : aggT Tryz.prog 118 = some false := by kernel_rfl
@[go_sem] theorem bytesT_118 : bytesT Tryz.prog 118 = some 8 := by kernel_rfl
@[go_sem] theorem zeroT_118 : zeroT Tryz.prog 118 = some [AV.any] := by kernel_rfl
@[go_sem] theorem sizeT_119 : sizeT Tryz.prog 119 = some 1 := by kernel_rfl
@[go_sem] theorem aggT_119 : aggT Tryz.prog 119 = some false := by kernel_rfl
@[go_sem] theorem bytesT_119 : bytesT Tryz.prog 119 = some 24 := by kernel_rfl
@[go_sem] theorem zeroT_119 : zeroT Tryz.prog 119 = some [AV.nils] := by kernel_rfl
@[go_sem] theorem elemT_119 : elemT Tryz.prog 119 = some 3 := by kernel_rfl
@[go_sem] theorem isBytesT_119 : isBytesT Tryz.prog 119 = false := by kernel_rfl
@[go_sem] theorem sizeT_121 : sizeT Tryz.prog 121 = some 1 := by kernel_rfl
@[go_sem] theorem aggT_121 : aggT Tryz.prog 121 = some false := by kernel_rfl
@[go_sem] theorem bytesT_121 : bytesT Tryz.prog 121 = some 8 := by kernel_rfl
@[go_sem] theorem zeroT_121 : zeroT Tryz.prog 121 = some [AV.any] := by kernel_rfl
@[go_sem] theorem sizeT_122 : sizeT Tryz.prog 122 = some 1 := by kernel_rfl
@[go_sem] theorem aggT_122 : aggT Tryz.prog 122 = some false := by kernel_rfl
@[go_sem] theorem bytesT_122 : bytesT Tryz.prog 122 = some 8 := by kernel_rfl
@[go_sem] theorem zeroT_122 : zeroT Tryz.prog 122 = some [AV.any] := by kernel_rfl
@[go_sem] theorem sizeT_123 : sizeT Tryz.prog 123 = some 1 := by kernel_rfl
@[go_sem] theorem aggT_123 : aggT Tryz.prog 123 = some false := by kernel_rfl
@[go_sem] theorem bytesT_123 : bytesT Tryz.prog 123 = some 8 := by kernel_rfl
@[go_sem] theorem zeroT_123 : zeroT Tryz.prog 123 = some [AV.any] := by kernel_rfl
@[go_sem] theorem sizeT_124 : sizeT Tryz.prog 124 = some 1 := by kernel_rfl
@[go_sem] theorem aggT_124 : aggT Tryz.prog 124 = some false := by kernel_rfl
@[go_sem] theorem bytesT_124 : bytesT Tryz.prog 124 = some 8 := by kernel_rfl
@[go_sem] theorem zeroT_124 : zeroT Tryz.prog 124 = some [AV.any] := by kernel_rfl
@[go_sem] theorem sizeT_125 : sizeT Tryz.prog 125 = some 1 := by kernel_rfl
@[go_sem] theorem aggT_125 : aggT Tryz.prog 125 = some false := by kernel_rfl
@[go_sem] theorem bytesT_125 : bytesT Tryz.prog 125 = some 8 := by kernel_rfl
@[go_sem] theorem zeroT_125 : zeroT Tryz.prog 125 = some [AV.int .u64 (0)] := by kernel_rfl
@[go_sem] theorem intT_125 : intT Tryz.prog 125 = some .u64 := by kernel_rfl
@[go_sem] theorem sizeT_126 : sizeT Tryz.prog 126 = some 1 := by kernel_rfl
@[go_sem] theorem aggT_126 : aggT Tryz.prog 126 = some false := by kernel_rfl
@[go_sem] theorem bytesT_126 : bytesT Tryz.prog 126 = some 8 := by kernel_rfl
@[go_sem] theorem zeroT_126 : zeroT Tryz.prog 126 = some [AV.any] := by kernel_rfl
@[go_sem] theorem sizeT_127 : sizeT Tryz.prog 127 = some 1 := by kernel_rfl
@[go_sem] theorem aggT_127 : aggT Tryz.prog 127 = some false := by kernel_rfl
@[go_sem] theorem bytesT_127 : bytesT Tryz.prog 127 = some 8 := by kernel_rfl
@[go_sem] theorem zeroT_127 : zeroT Tryz.prog 127 = some [AV.any] := by kernel_rfl
@[go_sem] theorem sizeT_128 : sizeT Tryz.prog 128 = some 1 := by kernel_rfl
@[go_sem] theorem aggT_128 : aggT Tryz.prog 128 = some false := by kernel_rfl
@[go_sem] theorem bytesT_128 : bytesT Tryz.prog 128 = some 8 := by kernel_rfl
@[go_sem] theorem zeroT_128 : zeroT Tryz.prog 128 = some [AV.any] := by kernel_rfl
@[go_sem] theorem sizeT_129 : sizeT Tryz.prog 129 = some 1 := by kernel_rfl
@[go_sem] theorem aggT_129 : aggT Tryz.prog 129 = some false := by kernel_rfl
@[go_sem] theorem bytesT_129 : bytesT Tryz.prog 129 = some 8 := by kernel_rfl
@[go_sem] theorem zeroT_129 : zeroT Tryz.prog 129 = some [AV.any] := by kernel_rfl
@[go_sem] theorem sizeT_130 : sizeT Tryz.prog 130 = some 1 := by kernel_rfl
@[go_sem] theorem aggT_130 : aggT Tryz.prog 130 = some false := by kernel_rfl
@[go_sem] theorem bytesT_130 : bytesT Tryz.prog 130 = some 8 := by kernel_rfl
@[go_sem] theorem zeroT_130 : zeroT Tryz.prog 130 = some [AV.any] := by kernel_rfl
@[go_sem] theorem sizeT_131 : sizeT Tryz.prog 131 = some 1 := by kernel_rfl
@[go_sem] theorem aggT_131 : aggT Tryz.prog 131 = some false := by kernel_rfl
@[go_sem] theorem bytesT_131 : bytesT Tryz.prog 131 = some 8 := by kernel_rfl
@[go_sem] theorem zeroT_131 : zeroT Tryz.prog 131 = some [AV.any] := by kernel_rfl
@[go_sem] theorem sizeT_132 : sizeT Tryz.prog 132 = some 1 := by kernel_rfl
@[go_sem] theorem aggT_132 : aggT Tryz.prog 132 = some false := by kernel_rfl
@[go_sem] theorem bytesT_132 : bytesT Tryz.prog 132 = some 8 := by kernel_rfl
@[go_sem] theorem zeroT_132 : zeroT Tryz.prog 132 = some [AV.any] := by kernel_rfl
@[go_sem] theorem sizeT_133 : sizeT Tryz.prog 133 = some 1 := by kernel_rfl
@[go_sem] theorem aggT_133 : aggT Tryz.prog 133 = some false := by kernel_rfl
@[go_sem] theorem bytesT_133 : bytesT Tryz.prog 133 = some 8 := by kernel_rfl
@[go_sem] theorem zeroT_133 : zeroT Tryz.prog 133 = some [AV.any] := by kernel_rfl
@[go_sem] theorem sizeT_134 : sizeT Tryz.prog 134 = some 1 := by kernel_rfl
@[go_sem] theorem aggT_134 : aggT Tryz.prog 134 = some false := by kernel_rfl
@[go_sem] theorem bytesT_134 : bytesT Tryz.prog 134 = some 8 := by kernel_rfl
@[go_sem] theorem zeroT_134 : zeroT Tryz.prog 134 = some [AV.any] := by kernel_rfl
@[go_sem] theorem sizeT_135 : sizeT Tryz.prog 135 = some 1 := by kernel_rfl
@[go_sem] theorem aggT_135 : aggT Tryz.prog 135 = some false := by kernel_rfl
@[go_sem] theorem bytesT_135 : bytesT Tryz.prog 135 = some 8 := by kernel_rfl
@[go_sem] theorem zeroT_135 : zeroT Tryz.prog 135 = some [AV.any] := by kernel_rfl
@[go_sem] theorem sizeT_136 : sizeT Tryz.prog 136 = some 1 := by kernel_rfl
@[go_sem] theorem aggT_136 : aggT Tryz.prog 136 = some false := by kernel_rfl
@[go_sem] theorem bytesT_136 : bytesT Tryz.prog 136 = some 8 := by kernel_rfl
@[go_sem] theorem zeroT_136 : zeroT Tryz.prog 136 = some [AV.any] := by kernel_rfl
@[go_sem] theorem sizeT_137 : sizeT Tryz.prog 137 = some 1 := by kernel_rfl
@[go_sem] theorem aggT_137 : aggT Tryz.prog 137 = some false := by kernel_rfl
@[go_sem] theorem bytesT_137 : bytesT Tryz.prog 137 = some 8 := by kernel_rfl
@[go_sem] theorem zeroT_137 : zeroT Tryz.prog 137 = some [AV.any] := by kernel_rfl
@[go_sem] theorem sizeT_138 : sizeT Tryz.prog 138 = some 1 := by kernel_rfl
@[go_sem] theorem aggT_138 : aggT Tryz.prog 138 = some false := by kernel_rfl
@[go_sem] theorem bytesT_138 : bytesT Tryz.prog 138 = some 8 := by kernel_rfl
@[go_sem] theorem zeroT_138 : zeroT Tryz.prog 138 = some [AV.int .i64 (0)] := by kernel_rfl
@[go_sem] theorem intT_138 : intT Tryz.prog 138 = some .i64 := by kernel_rfl
@[go_sem] theorem sizeT_140 : sizeT Tryz.prog 140 = some 1 := by kernel_rfl
@[go_sem] theorem aggT_140 : aggT Tryz.prog 140 = some false := by kernel_rfl
@[go_sem] theorem bytesT_140 : bytesT Tryz.prog 140 = some 8 := by kernel_rfl
@[go_sem] theorem zeroT_140 : zeroT Tryz.prog 140 = some [AV.any] := by kernel_rfl
@[go_sem] theorem sizeT_141 : sizeT Tryz.prog 141 = some 1 := by kernel_rfl
@[go_sem] theorem aggT_141 : aggT Tryz.prog 141 = some false := by kernel_rfl
@[go_sem] theorem bytesT_141 : bytesT Tryz.prog 141 = some 8 := by kernel_rfl
@[go_sem] theorem zeroT_141 : zeroT Tryz.prog 141 = some [AV.any] := by kernel_rfl
@[go_sem] theorem sizeT_142 : sizeT Tryz.prog 142 = some 1 := by kernel_rfl
@[go_sem] theorem aggT_142 : aggT Tryz.prog 142 = some false := by kernel_rfl
@[go_sem] theorem bytesT_142 : bytesT Tryz.prog 142 = some 8 := by kernel_rfl
@[go_sem] theorem zeroT_142 : zeroT Tryz.prog 142 = some [AV.any] := by kernel_rfl
@[go_sem] theorem sizeT_144 : sizeT Tryz.prog 144 = some 1 := by kernel_rfl
@[go_sem] theorem aggT_144 : aggT Tryz.prog 144 = some false := by kernel_rfl
@[go_sem] theorem bytesT_144 : bytesT Tryz.prog 144 = some 8 := by kernel_rfl
@[go_sem] theorem zeroT_144 : zeroT Tryz.prog 144 = some [AV.any] := by kernel_rfl
@[go_sem] theorem sizeT_145 : sizeT Tryz.prog 145 = some 1 := by kernel_rfl
@[go_sem] theorem aggT_145 : aggT Tryz.prog 145 = some false := by kernel_rfl
@[go_sem] theorem bytesT_145 : bytesT Tryz.prog 145 = some 8 := by kernel_rfl
@[go_sem] theorem zeroT_145 : zeroT Tryz.prog 145 = some [AV.any] := by kernel_rfl
@[go_sem] theorem sizeT_146 : sizeT Tryz.prog 146 = some 1 := by kernel_rfl
@[go_sem] theorem aggT_146 : aggT Tryz.prog 146 = some false := by kernel_rfl
@[go_sem] theorem bytesT_146 : bytesT Tryz.prog 146 = some 4 := by kernel_rfl
@[go_sem] theorem zeroT_146 : zeroT Tryz.prog 146 = some [AV.int .u32 (0)] := by kernel_rfl
@[go_sem] theorem intT_146 : intT Tryz.prog 146 = some .u32 := by kernel_rfl
@[go_sem] theorem sizeT_147 : sizeT Tryz.prog 147 = some 1 := by kernel_rfl
@[go_sem] theorem aggT_147 : aggT Tryz.prog 147 = some false := by kernel_rfl
@[go_sem] theorem bytesT_147 : bytesT Tryz.prog 147 = some 8 := by kernel_rfl
@[go_sem] theorem zeroT_147 : zeroT Tryz.prog 147 = some [AV.any] := by kernel_rfl
@[go_sem] theorem sizeT_148 : sizeT Tryz.prog 148 = some 1 := by kernel_rfl
@[go_sem] theorem aggT_148 : aggT Tryz.prog 148 = some false := by kernel_rfl
@[go_sem] theorem bytesT_148 : bytesT Tryz.prog 148 = some 8 := by kernel_rfl
@[go_sem] theorem zeroT_148 : zeroT Tryz.prog 148 = some [AV.int .u64 (0)] := by kernel_rfl
@[go_sem] theorem intT_148 : intT Tryz.prog 148 = some .u64 := by kernel_rfl
@[go_sem] theorem sizeT_149 : sizeT Tryz.prog 149 = some 1 := by kernel_rfl
@[go_sem] theorem aggT_149 : aggT Tryz.prog 149 = some false := by kernel_rfl
@[go_sem] theorem bytesT_149 : bytesT Tryz.prog 149 = some 8 := by kernel_rfl
@[go_sem] theorem zeroT_149 : zeroT Tryz.prog 149 = some [AV.any] := by kernel_rfl
@[go_sem] theorem sizeT_150 : sizeT Tryz.prog 150 = some 1 := by kernel_rfl
@[go_sem] theorem aggT_150 : aggT Tryz.prog 150 = some false := by kernel_rfl
@[go_sem] theorem bytesT_150 : bytesT Tryz.prog 150 = some 8 := by kernel_rfl
@[go_sem] theorem zeroT_150 : zeroT Tryz.prog 150 = some [AV.any] := by kernel_rfl
@[go_sem] theorem sizeT_151 : sizeT Tryz.prog 151 = some 1 := by kernel_rfl
@[go_sem] theorem aggT_151 : aggT Tryz.prog 151 = some false := by kernel_rfl
@[go_sem] theorem bytesT_151 : bytesT Tryz.prog 151 = some 24 := by kernel_rfl
@[go_sem] theorem zeroT_151 : zeroT Tryz.prog 151 = some [AV.nils] := by kernel_rfl
@[go_sem] theorem elemT_151 : elemT Tryz.prog 151 = some 156 := by kernel_rfl
@[go_sem] theorem isBytesT_151 : isBytesT Tryz.prog 151 = false := by kernel_rfl
@[go_sem] theorem sizeT_152 : sizeT Tryz.prog 152 = some 1 := by kernel_rfl
@[go_sem] theorem aggT_152 : aggT Tryz.prog 152 = some false := by kernel_rfl
@[go_sem] theorem bytesT_152 : bytesT Tryz.prog 152 = some 8 := by kernel_rfl
@[go_sem] theorem zeroT_152 : zeroT Tryz.prog 152 = some [AV.any] := by kernel_rfl
@[go_sem] theorem sizeT_153 : sizeT Tryz.prog 153 = some 1 := by kernel_rfl
@[go_sem] theorem aggT_153 : aggT Tryz.prog 153 = some false := by kernel_rfl
@[go_sem] theorem bytesT_153 : bytesT Tryz.prog 153 = some 8 := by kernel_rfl
@[go_sem] theorem zeroT_153 : zeroT Tryz.prog 153 = some [AV.any] := by kernel_rfl
@[go_sem] theorem sizeT_154 : sizeT Tryz.prog 154 = some 1 := by kernel_rfl
@[go_sem] theorem aggT_154 : aggT Tryz.prog 154 = some false := by kernel_rfl
@[go_sem] theorem bytesT_154 : bytesT Tryz.prog 154 = some 24 := by kernel_rfl
@[go_sem] theorem zeroT_154 : zeroT Tryz.prog 154 = some [AV.nils] := by kernel_rfl
@[go_sem] theorem elemT_154 : elemT Tryz.prog 154 = some 5 := by kernel_rfl
@[go_sem] theorem isBytesT_154 : isBytesT Tryz.prog 154 = true := by kernel_rfl
@[go_sem] theorem sizeT_155 : sizeT Tryz.prog 155 = some 2 := by kernel_rfl
@[go_sem] theorem aggT_155 : aggT Tryz.prog 155 = some true := by kernel_rfl
@[go_sem] theorem bytesT_155 : bytesT Tryz.prog 155 = some 32 := by kernel_rfl
@[go_sem] theorem zeroT_155 : zeroT Tryz.prog 155 = some [AV.str ⟨#[]⟩, AV.str ⟨#[]⟩] := by kernel_rfl
@[go_sem] theorem fieldT_155_0 : fieldT Tryz.prog 155 0 = some (0, 9) := by kernel_rfl
@[go_sem] theorem fieldT_155_1 : fieldT Tryz.prog 155 1 = some (1, 9) := by kernel_rfl
@[go_sem] theorem eqK_155 : eqK Tryz.prog 155 = some [.str, .str] := by kernel_rfl
@[go_sem] theorem placesT_155 : placesT Tryz.prog 155 = some [(0, 1), (1, 1)] := by kernel_rfl
@[go_sem] theorem sizeT_156 : sizeT Tryz.prog 156 = some 2 := by kernel_rfl
@[go_sem] theorem aggT_156 : aggT Tryz.prog 156 = some true := by kernel_rfl
@[go_sem] theorem bytesT_156 : bytesT Tryz.prog 156 = some 32 := by kernel_rfl
@[go_sem] theorem zeroT_156 : zeroT Tryz.prog 156 = some [AV.str ⟨#[]⟩, AV.str ⟨#[]⟩] := by kernel_rfl
@[go_sem] theorem fieldT_156_0 : fieldT Tryz.prog 156 0 = some (0, 9) := by kernel_rfl
@[go_sem] theorem fieldT_156_1 : fieldT Tryz.prog 156 1 = some (1, 9) := by kernel_rfl
@[go_sem] theorem eqK_156 : eqK Tryz.prog 156 = some [.str, .str] := by kernel_rfl
@[go_sem] theorem placesT_156 : placesT Tryz.prog 156 = some [(0, 1), (1, 1)] := by kernel_rfl
@[go_sem] theorem sizeT_157 : sizeT Tryz.prog 157 = some 1 := by kernel_rfl
@[go_sem] theorem aggT_157 : aggT Tryz.prog 157 = some false := by kernel_rfl
@[go_sem] theorem bytesT_157 : bytesT Tryz.prog 157 = some 8 := by kernel_rfl
@[go_sem] theorem zeroT_157 : zeroT Tryz.prog 157 = some [AV.any] := by kernel_rfl
@[go_sem] theorem sizeT_158 : sizeT Tryz.prog 158 = some 1 := by kernel_rfl
@[go_sem] theorem aggT_158 : aggT Tryz.prog 158 = some false := by kernel_rfl
@[go_sem] theorem bytesT_158 : bytesT Tryz.prog 158 = some 8 := by kernel_rfl
@[go_sem] theorem zeroT_158 : zeroT Tryz.prog 158 = some [AV.any] := by kernel_rfl
@[go_sem] theorem sizeT_159 : sizeT Tryz.prog 159 = some 1 := by kernel_rfl
@[go_sem] theorem aggT_159 : aggT Tryz.prog 159 = some false := by kernel_rfl
@[go_sem] theorem bytesT_159 : bytesT Tryz.prog 159 = some 8 := by kernel_rfl
@[go_sem] theorem zeroT_159 : zeroT Tryz.prog 159 = some [AV.any] := by kernel_rfl
@[go_sem] theorem sizeT_160 : sizeT Tryz.prog 160 = some 1 := by kernel_rfl
@[go_sem] theorem aggT_160 : aggT Tryz.prog 160 = some false := by kernel_rfl
@[go_sem] theorem bytesT_160 : bytesT Tryz.prog 160 = some 24 := by kernel_rfl
@[go_sem] theorem zeroT_160 : zeroT Tryz.prog 160 = some [AV.nils] := by kernel_rfl
@[go_sem] theorem elemT_160 : elemT Tryz.prog 160 = some 51 := by kernel_rfl
@[go_sem] theorem isBytesT_160 : isBytesT Tryz.prog 160 = false := by kernel_rfl
@[go_sem] theorem sizeT_161 : sizeT Tryz.prog 161 = some 1 := by kernel_rfl
@[go_sem] theorem aggT_161 : aggT Tryz.prog 161 = some false := by kernel_rfl
@[go_sem] theorem bytesT_161 : bytesT Tryz.prog 161 = some 8 := by kernel_rfl
@[go_sem] theorem zeroT_161 : zeroT Tryz.prog 161 = some [AV.any] := by kernel_rfl
@[go_sem] theorem sizeT_162 : sizeT Tryz.prog 162 = some 1 := by kernel_rfl
@[go_sem] theorem aggT_162 : aggT Tryz.prog 162 = some false := by kernel_rfl
@[go_sem] theorem bytesT_162 : bytesT Tryz.prog 162 = some 8 := by kernel_rfl
@[go_sem] theorem zeroT_162 : zeroT Tryz.prog 162 = some [AV.int .u64 (0)] := by kernel_rfl
@[go_sem] theorem intT_162 : intT Tryz.prog 162 = some .u64 := by kernel_rfl
@[go_sem] theorem sizeT_163 : sizeT Tryz.prog 163 = some 1 := by kernel_rfl
@[go_sem] theorem aggT_163 : aggT Tryz.prog 163 = some false := by kernel_rfl
@[go_sem] theorem bytesT_163 : bytesT Tryz.prog 163 = some 8 := by kernel_rfl
@[go_sem] theorem zeroT_163 : zeroT Tryz.prog 163 = some [AV.any] := by kernel_rfl
@[go_sem] theorem sizeT_164 : sizeT Tryz.prog 164 = some 1 := by kernel_rfl
@[go_sem] theorem aggT_164 : aggT Tryz.prog 164 = some false := by kernel_rfl
@[go_sem] theorem bytesT_164 : bytesT Tryz.prog 164 = some 8 := by kernel_rfl
@[go_sem] theorem zeroT_164 : zeroT Tryz.prog 164 = some [AV.any] := by kernel_rfl
@[go_sem] theorem sizeT_165 : sizeT Tryz.prog 165 = some 1 := by kernel_rfl
@[go_sem] theorem aggT_165 : aggT Tryz.prog 165 = some false := by kernel_rfl
@[go_sem] theorem bytesT_165 : bytesT Tryz.prog 165 = some 8 := by kernel_rfl
@[go_sem] theorem zeroT_165 : zeroT Tryz.prog 165 = some [AV.any] := by kernel_rfl
@[go_sem] theorem sizeT_166 : sizeT Tryz.prog 166 = some 1 := by kernel_rfl
@[go_sem] theorem aggT_166 : aggT Tryz.prog 166 = some false := by kernel_rfl
@[go_sem] theorem bytesT_166 : bytesT Tryz.prog 166 = some 8 := by kernel_rfl
@[go_sem] theorem zeroT_166 : zeroT Tryz.prog 166 = some [AV.any] := by kernel_rfl
@[go_sem] theorem sizeT_167 : sizeT Tryz.prog 167 = some 1 := by kernel_rfl
@[go_sem] theorem aggT_167 : aggT Tryz.prog 167 = some false := by kernel_rfl
@[go_sem] theorem bytesT_167 : bytesT Tryz.prog 167 = some 8 := by kernel_rfl
@[go_sem] theorem zeroT_167 : zeroT Tryz.prog 167 = some [AV.any] := by kernel_rfl
@[go_sem] theorem sizeT_168 : sizeT Tryz.prog 168 = some 1 := by kernel_rfl
@[go_sem] theorem aggT_168 : aggT Tryz.prog 168 = some false := by kernel_rfl
@[go_sem] theorem bytesT_168 : bytesT Tryz.prog 168 = some 8 := by kernel_rfl
@[go_sem] theorem zeroT_168 : zeroT Tryz.prog 168 = some [AV.any] := by kernel_rfl
@[go_sem] theorem sizeT_169 : sizeT Tryz.prog 169 = some 1 := by kernel_rfl
@[go_sem] theorem aggT_169 : aggT Tryz.prog 169 = some false := by kernel_rfl
@[go_sem] theorem bytesT_169 : bytesT Tryz.prog 169 = some 8 := by kernel_rfl
@[go_sem] theorem zeroT_169 : zeroT Tryz.prog 169 = some [AV.any] := by kernel_rfl
@[go_sem] theorem sizeT_170 : sizeT Tryz.prog 170 = some 1 := by kernel_rfl
@[go_sem] theorem aggT_170 : aggT Tryz.prog 170 = some false := by kernel_rfl
@[go_sem] theorem bytesT_170 : bytesT Tryz.prog 170 = some 8 := by kernel_rfl
@[go_sem] theorem zeroT_170 : zeroT Tryz.prog 170 = some [AV.any] := by kernel_rfl
@[go_sem] theorem sizeT_171 : sizeT Tryz.prog 171 = some 1 := by kernel_rfl
@[go_sem] theorem aggT_171 : aggT Tryz.prog 171 = some false := by kernel_rfl
@[go_sem] theorem bytesT_171 : bytesT Tryz.prog 171 = some 8 := by kernel_rfl
@[go_sem] theorem zeroT_171 : zeroT Tryz.prog 171 = some [AV.any] := by kernel_rfl
@[go_sem] theorem sizeT_172 : sizeT Tryz.prog 172 = some 1 := by kernel_rfl
@[go_sem] theorem aggT_172 : aggT Tryz.prog 172 = some false := by kernel_rfl
@[go_sem] theorem bytesT_172 : bytesT Tryz.prog 172 = some 8 := by kernel_rfl
@[go_sem] theorem zeroT_172 : zeroT Tryz.prog 172 = some [AV.any] := by kernel_rfl
@[go_sem] theorem sizeT_174 : sizeT Tryz.prog 174 = some 1 := by kernel_rfl
@[go_sem] theorem aggT_174 : aggT Tryz.prog 174 = some false := by kernel_rfl
@[go_sem] theorem bytesT_174 : bytesT Tryz.prog 174 = some 8 := by kernel_rfl
@[go_sem] theorem zeroT_174 : zeroT Tryz.prog 174 = some [AV.any] := by kernel_rfl
@[go_sem] theorem sizeT_175 : sizeT Tryz.prog 175 = some 1 := by kernel_rfl
@[go_sem] theorem aggT_175 : aggT Tryz.prog 175 = some false := by kernel_rfl
@[go_sem] theorem bytesT_175 : bytesT Tryz.prog 175 = some 8 := by kernel_rfl
@[go_sem] theorem zeroT_175 : zeroT Tryz.prog 175 = some [AV.any] := by kernel_rfl
@[go_sem] theorem sizeT_176 : sizeT Tryz.prog 176 = some 4 := by kernel_rfl
@[go_sem] theorem aggT_176 : aggT Tryz.prog 176 = some true := by kernel_rfl
@[go_sem] theorem bytesT_176 : bytesT Tryz.prog 176 = some 40 := by kernel_rfl
@[go_sem] theorem fieldT_176_0 : fieldT Tryz.prog 176 0 = some (0, 17) := by kernel_rfl
@[go_sem] theorem fieldT_176_1 : fieldT Tryz.prog 176 1 = some (1, 17) := by kernel_rfl
@[go_sem] theorem fieldT_176_2 : fieldT Tryz.prog 176 2 = some (2, 17) := by kernel_rfl
@[go_sem] theorem fieldT_176_3 : fieldT Tryz.prog 176 3 = some (3, 9) := by kernel_rfl
@[go_sem] theorem placesT_176 : placesT Tryz.prog 176 = some [(0, 1), (1, 1), (2, 1), (3, 1)] := by kernel_rfl
@[go_sem] theorem sizeT_177 : sizeT Tryz.prog 177 = some 4 := by kernel_rfl
@[go_sem] theorem aggT_177 : aggT Tryz.prog 177 = some true := by kernel_rfl
@[go_sem] theorem bytesT_177 : bytesT Tryz.prog 177 = some 40 := by kernel_rfl
@[go_sem] theorem fieldT_177_0 : fieldT Tryz.prog 177 0 = some (0, 17) := by kernel_rfl
@[go_sem] theorem fieldT_177_1 : fieldT Tryz.prog 177 1 = some (1, 17) := by kernel_rfl
@[go_sem] theorem fieldT_177_2 : fieldT Tryz.prog 177 2 = some (2, 17) := by kernel_rfl
@[go_sem] theorem fieldT_177_3 : fieldT Tryz.prog 177 3 = some (3, 9) := by kernel_rfl
@[go_sem] theorem placesT_177 : placesT Tryz.prog 177 = some [(0, 1), (1, 1), (2, 1), (3, 1)] := by kernel_rfl
@[go_sem] theorem sizeT_179 : sizeT Tryz.prog 179 = some 0 := by kernel_rfl
@[go_sem] theorem aggT_179 : aggT Tryz.prog 179 = some true := by kernel_rfl
@[go_sem] theorem bytesT_179 : bytesT Tryz.prog 179 = some 0 := by kernel_rfl
@[go_sem] theorem zeroT_179 : zeroT Tryz.prog 179 = some [] := by kernel_rfl
@[go_sem] theorem fieldT_179_0 : fieldT Tryz.prog 179 0 = some (0, 178) := by kernel_rfl
@[go_sem] theorem placesT_179 : placesT Tryz.prog 179 = some [(0, 0)] := by kernel_rfl
@[go_sem] theorem sizeT_180 : sizeT Tryz.prog 180 = some 0 := by kernel_rfl
@[go_sem] theorem aggT_180 : aggT Tryz.prog 180 = some true := by kernel_rfl
@[go_sem] theorem bytesT_180 : bytesT Tryz.prog 180 = some 0 := by kernel_rfl
@[go_sem] theorem zeroT_180 : zeroT Tryz.prog 180 = some [] := by kernel_rfl
@[go_sem] theorem fieldT_180_0 : fieldT Tryz.prog 180 0 = some (0, 178) := by kernel_rfl
@[go_sem] theorem placesT_180 : placesT Tryz.prog 180 = some [(0, 0)] := by kernel_rfl
@[go_sem] theorem sizeT_181 : sizeT Tryz.prog 181 = some 1 := by kernel_rfl
@[go_sem] theorem aggT_181 : aggT Tryz.prog 181 = some false := by kernel_rfl
@[go_sem] theorem bytesT_181 : bytesT Tryz.prog 181 = some 8 := by kernel_rfl
@[go_sem] theorem zeroT_181 : zeroT Tryz.prog 181 = some [AV.any] := by kernel_rfl
@[go_sem] theorem sizeT_182 : sizeT Tryz.prog 182 = some 1 := by kernel_rfl
@[go_sem] theorem aggT_182 : aggT Tryz.prog 182 = some false := by kernel_rfl
@[go_sem] theorem bytesT_182 : bytesT Tryz.prog 182 = some 1 := by kernel_rfl
@[go_sem] theorem zeroT_182 : zeroT Tryz.prog 182 = some [AV.int .u8 (0)] := by kernel_rfl
@[go_sem] theorem intT_182 : intT Tryz.prog 182 = some .u8 := by kernel_rfl
@[go_sem] theorem sizeT_183 : sizeT Tryz.prog 183 = some 1 := by kernel_rfl
@[go_sem] theorem aggT_183 : aggT Tryz.prog 183 = some false := by kernel_rfl
@[go_sem] theorem bytesT_183 : bytesT Tryz.prog 183 = some 1 := by kernel_rfl
@[go_sem] theorem zeroT_183 : zeroT Tryz.prog 183 = some [AV.int .u8 (0)] := by kernel_rfl
@[go_sem] theorem intT_183 : intT Tryz.prog 183 = some .u8 := by kernel_rfl
@[go_sem] theorem sizeT_184 : sizeT Tryz.prog 184 = some 1 := by kernel_rfl
@[go_sem] theorem aggT_184 : aggT Tryz.prog 184 = some false := by kernel_rfl
@[go_sem] theorem bytesT_184 : bytesT Tryz.prog 184 = some 8 := by kernel_rfl
@[go_sem] theorem zeroT_184 : zeroT Tryz.prog 184 = some [AV.any] := by kernel_rfl
@[go_sem] theorem sizeT_185 : sizeT Tryz.prog 185 = some 1 := by kernel_rfl
@[go_sem] theorem aggT_185 : aggT Tryz.prog 185 = some false := by kernel_rfl
@[go_sem] theorem bytesT_185 : bytesT Tryz.prog 185 = some 8 := by kernel_rfl
@[go_sem] theorem zeroT_185 : zeroT Tryz.prog 185 = some [AV.any] := by kernel_rfl
@[go_sem] theorem sizeT_186 : sizeT Tryz.prog 186 = some 1 := by kernel_rfl
@[go_sem] theorem aggT_186 : aggT Tryz.prog 186 = some false := by kernel_rfl
@[go_sem] theorem bytesT_186 : bytesT Tryz.prog 186 = some 4 := by kernel_rfl
@[go_sem] theorem zeroT_186 : zeroT Tryz.prog 186 = some [AV.int .i32 (0)] := by kernel_rfl
@[go_sem] theorem intT_186 : intT Tryz.prog 186 = some .i32 := by kernel_rfl
@[go_sem] theorem sizeT_187 : sizeT Tryz.prog 187 = some 1 := by kernel_rfl
@[go_sem] theorem aggT_187 : aggT Tryz.prog 187 = some false := by kernel_rfl
@[go_sem] theorem bytesT_187 : bytesT Tryz.prog 187 = some 4 := by kernel_rfl
@[go_sem] theorem zeroT_187 : zeroT Tryz.prog 187 = some [AV.int .i32 (0)] := by kernel_rfl
@[go_sem] theorem intT_187 : intT Tryz.prog 187 = some .i32 := by kernel_rfl
@[go_sem] theorem sizeT_188 : sizeT Tryz.prog 188 = some 11 := by kernel_rfl
@[go_sem] theorem aggT_188 : aggT Tryz.prog 188 = some true := by kernel_rfl
@[go_sem] theorem bytesT_188 : bytesT Tryz.prog 188 = some 48 := by kernel_rfl
@[go_sem] theorem fieldT_188_0 : fieldT Tryz.prog 188 0 = some (0, 12) := by kernel_rfl
@[go_sem] theorem fieldT_188_1 : fieldT Tryz.prog 188 1 = some (1, 12) := by kernel_rfl
@[go_sem] theorem fieldT_188_2 : fieldT Tryz.prog 188 2 = some (2, 146) := by kernel_rfl
@[go_sem] theorem fieldT_188_3 : fieldT Tryz.prog 188 3 = some (3, 182) := by kernel_rfl
@[go_sem] theorem fieldT_188_4 : fieldT Tryz.prog 188 4 = some (4, 5) := by kernel_rfl
@[go_sem] theorem fieldT_188_5 : fieldT Tryz.prog 188 5 = some (5, 5) := by kernel_rfl
@[go_sem] theorem fieldT_188_6 : fieldT Tryz.prog 188 6 = some (6, 183) := by kernel_rfl
@[go_sem] theorem fieldT_188_7 : fieldT Tryz.prog 188 7 = some (7, 184) := by kernel_rfl
@[go_sem] theorem fieldT_188_8 : fieldT Tryz.prog 188 8 = some (8, 185) := by kernel_rfl
@[go_sem] theorem fieldT_188_9 : fieldT Tryz.prog 188 9 = some (9, 186) := by kernel_rfl
@[go_sem] theorem fieldT_188_10 : fieldT Tryz.prog 188 10 = some (10, 187) := by kernel_rfl
@[go_sem] theorem placesT_188 : placesT Tryz.prog 188 = some [(0, 1), (1, 1), (2, 1), (3, 1), (4, 1), (5, 1), (6, 1), (7, 1), (8, 1), (9, 1), (10, 1)] := by kernel_rfl
@[go_sem] theorem sizeT_189 : sizeT Tryz.prog 189 = some 11 := by kernel_rfl
@[go_sem] theorem aggT_189 : aggT Tryz.prog 189 = some true := by kernel_rfl
@[go_sem] theorem bytesT_189 : bytesT Tryz.prog 189 = some 48 := by kernel_rfl
@[go_sem] theorem fieldT_189_0 : fieldT Tryz.prog 189 0 = some (0, 12) := by kernel_rfl
@[go_sem] theorem fieldT_189_1 : fieldT Tryz.prog 189 1 = some (1, 12) := by kernel_rfl
@[go_sem] theorem fieldT_189_2 : fieldT Tryz.prog 189 2 = some (2, 146) := by kernel_rfl
@[go_sem] theorem fieldT_189_3 : fieldT Tryz.prog 189 3 = some (3, 182) := by kernel_rfl
@[go_sem] theorem fieldT_189_4 : fieldT Tryz.prog 189 4 = some (4, 5) := by kernel_rfl
@[go_sem] theorem fieldT_189_5 : fieldT Tryz.prog 189 5 = some (5, 5) := by kernel_rfl
@[go_sem] theorem fieldT_189_6 : fieldT Tryz.prog 189 6 = some (6, 183) := by kernel_rfl
@[go_sem] theorem fieldT_189_7 : fieldT Tryz.prog 189 7 = some (7, 184) := by kernel_rfl
@[go_sem] theorem fieldT_189_8 : fieldT Tryz.prog 189 8 = some (8, 185) := by kernel_rfl
@[go_sem] theorem fieldT_189_9 : fieldT Tryz.prog 189 9 = some (9, 186) := by kernel_rfl
@[go_sem] theorem fieldT_189_10 : fieldT Tryz.prog 189 10 = some (10, 187) := by kernel_rfl
@[go_sem] theorem placesT_189 : placesT Tryz.prog 189 = some [(0, 1), (1, 1), (2, 1), (3, 1), (4, 1), (5, 1), (6, 1), (7, 1), (8, 1), (9, 1), (10, 1)] := by kernel_rfl

end Go.Proofs.YtppjmigiogddpaaGreat.Ty
