/- What the types of this seat are, for the abstract machine: printed by a program of this work, each row reckoned by the kernel. -/
import Derived.Test.YtdfdagfgkijpcaaAb15
import Derived.Test.YtdfdagfgkijpcaaProg
namespace Go.Proofs.Ytdfdagfgkijpcaa.Ty
open Go Go.Proofs Go.Proofs.Ytdfdagfgkijpcaa.Ab

@[go_sem] theorem sizeT_1 : sizeT Try.prog 1 = some 1 := by kernel_rfl
@[go_sem] theorem aggT_1 : aggT Try.prog 1 = some false := by kernel_rfl
@[go_sem] theorem bytesT_1 : bytesT Try.prog 1 = some 8 := by kernel_rfl
@[go_sem] theorem zeroT_1 : zeroT Try.prog 1 = some [AV.any] := by kernel_rfl
@[go_sem] theorem sizeT_2 : sizeT Try.prog 2 = some 1 := by kernel_rfl
@[go_sem] theorem aggT_2 : aggT Try.prog 2 = some false := by kernel_rfl
@[go_sem] theorem bytesT_2 : bytesT Try.prog 2 = some 8 := by kernel_rfl
@[go_sem] theorem zeroT_2 : zeroT Try.prog 2 = some [AV.int .i64 (0)] := by kernel_rfl
@[go_sem] theorem intT_2 : intT Try.prog 2 = some .i64 := by kernel_rfl
@[go_sem] theorem sizeT_3 : sizeT Try.prog 3 = some 1 := by kernel_rfl
@[go_sem] theorem aggT_3 : aggT Try.prog 3 = some false := by kernel_rfl
@[go_sem] theorem bytesT_3 : bytesT Try.prog 3 = some 8 := by kernel_rfl
@[go_sem] theorem zeroT_3 : zeroT Try.prog 3 = some [AV.int .i64 (0)] := by kernel_rfl
@[go_sem] theorem intT_3 : intT Try.prog 3 = some .i64 := by kernel_rfl
@[go_sem] theorem sizeT_4 : sizeT Try.prog 4 = some 1 := by kernel_rfl
@[go_sem] theorem aggT_4 : aggT Try.prog 4 = some false := by kernel_rfl
@[go_sem] theorem bytesT_4 : bytesT Try.prog 4 = some 1 := by kernel_rfl
@[go_sem] theorem zeroT_4 : zeroT Try.prog 4 = some [AV.bool false] := by kernel_rfl
@[go_sem] theorem isBoolT_4 : isBoolT Try.prog 4 = true := by kernel_rfl
@[go_sem] theorem sizeT_5 : sizeT Try.prog 5 = some 1 := by kernel_rfl
@[go_sem] theorem aggT_5 : aggT Try.prog 5 = some false := by kernel_rfl
@[go_sem] theorem bytesT_5 : bytesT Try.prog 5 = some 1 := by kernel_rfl
@[go_sem] theorem zeroT_5 : zeroT Try.prog 5 = some [AV.int .u8 (0)] := by kernel_rfl
@[go_sem] theorem intT_5 : intT Try.prog 5 = some .u8 := by kernel_rfl
@[go_sem] theorem sizeT_6 : sizeT Try.prog 6 = some 1 := by kernel_rfl
@[go_sem] theorem aggT_6 : aggT Try.prog 6 = some false := by kernel_rfl
@[go_sem] theorem bytesT_6 : bytesT Try.prog 6 = some 1 := by kernel_rfl
@[go_sem] theorem zeroT_6 : zeroT Try.prog 6 = some [AV.int .u8 (0)] := by kernel_rfl
@[go_sem] theorem intT_6 : intT Try.prog 6 = some .u8 := by kernel_rfl
@[go_sem] theorem sizeT_7 : sizeT Try.prog 7 = some 4 := by kernel_rfl
@[go_sem] theorem aggT_7 : aggT Try.prog 7 = some true := by kernel_rfl
@[go_sem] theorem bytesT_7 : bytesT Try.prog 7 = some 24 := by kernel_rfl
@[go_sem] theorem zeroT_7 : zeroT Try.prog 7 = some [AV.int .i64 (0), AV.int .i64 (0), AV.bool false, AV.int .u8 (0)] := by kernel_rfl
@[go_sem] theorem fieldT_7_0 : fieldT Try.prog 7 0 = some (0, 2) := by kernel_rfl
@[go_sem] theorem fieldT_7_1 : fieldT Try.prog 7 1 = some (1, 3) := by kernel_rfl
@[go_sem] theorem fieldT_7_2 : fieldT Try.prog 7 2 = some (2, 4) := by kernel_rfl
@[go_sem] theorem fieldT_7_3 : fieldT Try.prog 7 3 = some (3, 6) := by kernel_rfl
@[go_sem] theorem eqK_7 : eqK Try.prog 7 = some [.int, .int, .bool, .int] := by kernel_rfl
@[go_sem] theorem placesT_7 : placesT Try.prog 7 = some [(0, 1), (1, 1), (2, 1), (3, 1)] := by kernel_rfl
@[go_sem] theorem sizeT_8 : sizeT Try.prog 8 = some 4 := by kernel_rfl
@[go_sem] theorem aggT_8 : aggT Try.prog 8 = some true := by kernel_rfl
@[go_sem] theorem bytesT_8 : bytesT Try.prog 8 = some 24 := by kernel_rfl
@[go_sem] theorem zeroT_8 : zeroT Try.prog 8 = some [AV.int .i64 (0), AV.int .i64 (0), AV.bool false, AV.int .u8 (0)] := by kernel_rfl
@[go_sem] theorem fieldT_8_0 : fieldT Try.prog 8 0 = some (0, 2) := by kernel_rfl
@[go_sem] theorem fieldT_8_1 : fieldT Try.prog 8 1 = some (1, 3) := by kernel_rfl
@[go_sem] theorem fieldT_8_2 : fieldT Try.prog 8 2 = some (2, 4) := by kernel_rfl
@[go_sem] theorem fieldT_8_3 : fieldT Try.prog 8 3 = some (3, 6) := by kernel_rfl
@[go_sem] theorem eqK_8 : eqK Try.prog 8 = some [.int, .int, .bool, .int] := by kernel_rfl
@[go_sem] theorem placesT_8 : placesT Try.prog 8 = some [(0, 1), (1, 1), (2, 1), (3, 1)] := by kernel_rfl
@[go_sem] theorem sizeT_9 : sizeT Try.prog 9 = some 1 := by kernel_rfl
@[go_sem] theorem aggT_9 : aggT Try.prog 9 = some false := by kernel_rfl
@[go_sem] theorem bytesT_9 : bytesT Try.prog 9 = some 16 := by kernel_rfl
@[go_sem] theorem zeroT_9 : zeroT Try.prog 9 = some [AV.str ⟨#[]⟩] := by kernel_rfl
@[go_sem] theorem isStrT_9 : isStrT Try.prog 9 = true := by kernel_rfl
@[go_sem] theorem isBytesT_9 : isBytesT Try.prog 9 = false := by kernel_rfl
@[go_sem] theorem sizeT_10 : sizeT Try.prog 10 = some 1 := by kernel_rfl
@[go_sem] theorem aggT_10 : aggT Try.prog 10 = some false := by kernel_rfl
@[go_sem] theorem bytesT_10 : bytesT Try.prog 10 = some 16 := by kernel_rfl
@[go_sem] theorem zeroT_10 : zeroT Try.prog 10 = some [AV.str ⟨#[]⟩] := by kernel_rfl
@[go_sem] theorem isStrT_10 : isStrT Try.prog 10 = true := by kernel_rfl
@[go_sem] theorem isBytesT_10 : isBytesT Try.prog 10 = false := by kernel_rfl
@[go_sem] theorem sizeT_11 : sizeT Try.prog 11 = some 1 := by kernel_rfl
@[go_sem] theorem aggT_11 : aggT Try.prog 11 = some false := by kernel_rfl
@[go_sem] theorem bytesT_11 : bytesT Try.prog 11 = some 16 := by kernel_rfl
@[go_sem] theorem zeroT_11 : zeroT Try.prog 11 = some [AV.str ⟨#[]⟩] := by kernel_rfl
@[go_sem] theorem isStrT_11 : isStrT Try.prog 11 = true := by kernel_rfl
@[go_sem] theorem isBytesT_11 : isBytesT Try.prog 11 = false := by kernel_rfl
@[go_sem] theorem sizeT_12 : sizeT Try.prog 12 = some 1 := by kernel_rfl
@[go_sem] theorem aggT_12 : aggT Try.prog 12 = some false := by kernel_rfl
@[go_sem] theorem bytesT_12 : bytesT Try.prog 12 = some 8 := by kernel_rfl
@[go_sem] theorem zeroT_12 : zeroT Try.prog 12 = some [AV.int .u64 (0)] := by kernel_rfl
@[go_sem] theorem intT_12 : intT Try.prog 12 = some .u64 := by kernel_rfl
@[go_sem] theorem sizeT_13 : sizeT Try.prog 13 = some 2 := by kernel_rfl
@[go_sem] theorem aggT_13 : aggT Try.prog 13 = some true := by kernel_rfl
@[go_sem] theorem bytesT_13 : bytesT Try.prog 13 = some 24 := by kernel_rfl
@[go_sem] theorem zeroT_13 : zeroT Try.prog 13 = some [AV.str ⟨#[]⟩, AV.int .u64 (0)] := by kernel_rfl
@[go_sem] theorem fieldT_13_0 : fieldT Try.prog 13 0 = some (0, 9) := by kernel_rfl
@[go_sem] theorem fieldT_13_1 : fieldT Try.prog 13 1 = some (1, 12) := by kernel_rfl
@[go_sem] theorem placesT_13 : placesT Try.prog 13 = some [(0, 1), (1, 1)] := by kernel_rfl
@[go_sem] theorem sizeT_14 : sizeT Try.prog 14 = some 2 := by kernel_rfl
@[go_sem] theorem aggT_14 : aggT Try.prog 14 = some true := by kernel_rfl
@[go_sem] theorem bytesT_14 : bytesT Try.prog 14 = some 24 := by kernel_rfl
@[go_sem] theorem zeroT_14 : zeroT Try.prog 14 = some [AV.str ⟨#[]⟩, AV.int .u64 (0)] := by kernel_rfl
@[go_sem] theorem fieldT_14_0 : fieldT Try.prog 14 0 = some (0, 9) := by kernel_rfl
@[go_sem] theorem fieldT_14_1 : fieldT Try.prog 14 1 = some (1, 12) := by kernel_rfl
@[go_sem] theorem placesT_14 : placesT Try.prog 14 = some [(0, 1), (1, 1)] := by kernel_rfl
@[go_sem] theorem sizeT_15 : sizeT Try.prog 15 = some 1 := by kernel_rfl
@[go_sem] theorem aggT_15 : aggT Try.prog 15 = some false := by kernel_rfl
@[go_sem] theorem bytesT_15 : bytesT Try.prog 15 = some 8 := by kernel_rfl
@[go_sem] theorem zeroT_15 : zeroT Try.prog 15 = some [AV.any] := by kernel_rfl
@[go_sem] theorem sizeT_16 : sizeT Try.prog 16 = some 1 := by kernel_rfl
@[go_sem] theorem aggT_16 : aggT Try.prog 16 = some false := by kernel_rfl
@[go_sem] theorem bytesT_16 : bytesT Try.prog 16 = some 8 := by kernel_rfl
@[go_sem] theorem zeroT_16 : zeroT Try.prog 16 = some [AV.any] := by kernel_rfl
@[go_sem] theorem sizeT_17 : sizeT Try.prog 17 = some 1 := by kernel_rfl
@[go_sem] theorem aggT_17 : aggT Try.prog 17 = some false := by kernel_rfl
@[go_sem] theorem bytesT_17 : bytesT Try.prog 17 = some 8 := by kernel_rfl
@[go_sem] theorem zeroT_17 : zeroT Try.prog 17 = some [AV.any] := by kernel_rfl
@[go_sem] theorem sizeT_18 : sizeT Try.prog 18 = some 1 := by kernel_rfl
@[go_sem] theorem aggT_18 : aggT Try.prog 18 = some true := by kernel_rfl
@[go_sem] theorem bytesT_18 : bytesT Try.prog 18 = some 8 := by kernel_rfl
@[go_sem] theorem zeroT_18 : zeroT Try.prog 18 = some [AV.any] := by kernel_rfl
@[go_sem] theorem fieldT_18_0 : fieldT Try.prog 18 0 = some (0, 17) := by kernel_rfl
@[go_sem] theorem placesT_18 : placesT Try.prog 18 = some [(0, 1)] := by kernel_rfl
@[go_sem] theorem sizeT_19 : sizeT Try.prog 19 = some 1 := by kernel_rfl
@[go_sem] theorem aggT_19 : aggT Try.prog 19 = some true := by kernel_rfl
@[go_sem] theorem bytesT_19 : bytesT Try.prog 19 = some 8 := by kernel_rfl
@[go_sem] theorem zeroT_19 : zeroT Try.prog 19 = some [AV.any] := by kernel_rfl
@[go_sem] theorem fieldT_19_0 : fieldT Try.prog 19 0 = some (0, 17) := by kernel_rfl
@[go_sem] theorem placesT_19 : placesT Try.prog 19 = some [(0, 1)] := by kernel_rfl
@[go_sem] theorem sizeT_21 : sizeT Try.prog 21 = some 1 := by kernel_rfl
@[go_sem] theorem aggT_21 : aggT Try.prog 21 = some false := by kernel_rfl
@[go_sem] theorem bytesT_21 : bytesT Try.prog 21 = some 4 := by kernel_rfl
@[go_sem] theorem zeroT_21 : zeroT Try.prog 21 = some [AV.int .i32 (0)] := by kernel_rfl
@[go_sem] theorem intT_21 : intT Try.prog 21 = some .i32 := by kernel_rfl
@[go_sem] theorem sizeT_22 : sizeT Try.prog 22 = some 1 := by kernel_rfl
@[go_sem] theorem aggT_22 : aggT Try.prog 22 = some false := by kernel_rfl
@[go_sem] theorem bytesT_22 : bytesT Try.prog 22 = some 24 := by kernel_rfl
@[go_sem] theorem zeroT_22 : zeroT Try.prog 22 = some [AV.nils] := by kernel_rfl
@[go_sem] theorem elemT_22 : elemT Try.prog 22 = some 66 := by kernel_rfl
@[go_sem] theorem isBytesT_22 : isBytesT Try.prog 22 = false := by kernel_rfl
@[go_sem] theorem sizeT_23 : sizeT Try.prog 23 = some 3 := by kernel_rfl
@[go_sem] theorem aggT_23 : aggT Try.prog 23 = some true := by kernel_rfl
@[go_sem] theorem bytesT_23 : bytesT Try.prog 23 = some 40 := by kernel_rfl
@[go_sem] theorem zeroT_23 : zeroT Try.prog 23 = some [AV.int .i64 (0), AV.int .i64 (0), AV.nils] := by kernel_rfl
@[go_sem] theorem fieldT_23_0 : fieldT Try.prog 23 0 = some (0, 3) := by kernel_rfl
@[go_sem] theorem fieldT_23_1 : fieldT Try.prog 23 1 = some (1, 3) := by kernel_rfl
@[go_sem] theorem fieldT_23_2 : fieldT Try.prog 23 2 = some (2, 22) := by kernel_rfl
@[go_sem] theorem placesT_23 : placesT Try.prog 23 = some [(0, 1), (1, 1), (2, 1)] := by kernel_rfl
@[go_sem] theorem sizeT_24 : sizeT Try.prog 24 = some 3 := by kernel_rfl
@[go_sem] theorem aggT_24 : aggT Try.prog 24 = some true := by kernel_rfl
@[go_sem] theorem bytesT_24 : bytesT Try.prog 24 = some 40 := by kernel_rfl
@[go_sem] theorem zeroT_24 : zeroT Try.prog 24 = some [AV.int .i64 (0), AV.int .i64 (0), AV.nils] := by kernel_rfl
@[go_sem] theorem fieldT_24_0 : fieldT Try.prog 24 0 = some (0, 3) := by kernel_rfl
@[go_sem] theorem fieldT_24_1 : fieldT Try.prog 24 1 = some (1, 3) := by kernel_rfl
@[go_sem] theorem fieldT_24_2 : fieldT Try.prog 24 2 = some (2, 22) := by kernel_rfl
@[go_sem] theorem placesT_24 : placesT Try.prog 24 = some [(0, 1), (1, 1), (2, 1)] := by kernel_rfl
@[go_sem] theorem sizeT_25 : sizeT Try.prog 25 = some 1 := by kernel_rfl
@[go_sem] theorem aggT_25 : aggT Try.prog 25 = some false := by kernel_rfl
@[go_sem] theorem bytesT_25 : bytesT Try.prog 25 = some 8 := by kernel_rfl
@[go_sem] theorem zeroT_25 : zeroT Try.prog 25 = some [AV.any] := by kernel_rfl
@[go_sem] theorem sizeT_26 : sizeT Try.prog 26 = some 1 := by kernel_rfl
@[go_sem] theorem aggT_26 : aggT Try.prog 26 = some false := by kernel_rfl
@[go_sem] theorem bytesT_26 : bytesT Try.prog 26 = some 8 := by kernel_rfl
@[go_sem] theorem zeroT_26 : zeroT Try.prog 26 = some [AV.any] := by kernel_rfl
@[go_sem] theorem sizeT_27 : sizeT Try.prog 27 = some 1 := by kernel_rfl
@[go_sem] theorem aggT_27 : aggT Try.prog 27 = some false := by kernel_rfl
@[go_sem] theorem bytesT_27 : bytesT Try.prog 27 = some 8 := by kernel_rfl
@[go_sem] theorem zeroT_27 : zeroT Try.prog 27 = some [AV.int .i64 (0)] := by kernel_rfl
@[go_sem] theorem intT_27 : intT Try.prog 27 = some .i64 := by kernel_rfl
@[go_sem] theorem sizeT_29 : sizeT Try.prog 29 = some 1 := by kernel_rfl
@[go_sem] theorem aggT_29 : aggT Try.prog 29 = some false := by kernel_rfl
@[go_sem] theorem bytesT_29 : bytesT Try.prog 29 = some 8 := by kernel_rfl
@[go_sem] theorem zeroT_29 : zeroT Try.prog 29 = some [AV.any] := by kernel_rfl
@[go_sem] theorem sizeT_30 : sizeT Try.prog 30 = some 1 := by kernel_rfl
@[go_sem] theorem aggT_30 : aggT Try.prog 30 = some false := by kernel_rfl
@[go_sem] theorem bytesT_30 : bytesT Try.prog 30 = some 8 := by kernel_rfl
@[go_sem] theorem zeroT_30 : zeroT Try.prog 30 = some [AV.any] := by kernel_rfl
@[go_sem] theorem sizeT_32 : sizeT Try.prog 32 = some 1 := by kernel_rfl
@[go_sem] theorem aggT_32 : aggT Try.prog 32 = some false := by kernel_rfl
@[go_sem] theorem bytesT_32 : bytesT Try.prog 32 = some 8 := by kernel_rfl
@[go_sem] theorem zeroT_32 : zeroT Try.prog 32 = some [AV.any] := by kernel_rfl
@[go_sem] theorem sizeT_33 : sizeT Try.prog 33 = some 1 := by kernel_rfl
@[go_sem] theorem aggT_33 : aggT Try.prog 33 = some false := by kernel_rfl
@[go_sem] theorem bytesT_33 : bytesT Try.prog 33 = some 8 := by kernel_rfl
@[go_sem] theorem zeroT_33 : zeroT Try.prog 33 = some [AV.any] := by kernel_rfl
@[go_sem] theorem sizeT_34 : sizeT Try.prog 34 = some 1 := by kernel_rfl
@[go_sem] theorem aggT_34 : aggT Try.prog 34 = some false := by kernel_rfl
@[go_sem] theorem bytesT_34 : bytesT Try.prog 34 = some 24 := by kernel_rfl
@[go_sem] theorem zeroT_34 : zeroT Try.prog 34 = some [AV.nils] := by kernel_rfl
@[go_sem] theorem elemT_34 : elemT Try.prog 34 = some 56 := by kernel_rfl
@[go_sem] theorem isBytesT_34 : isBytesT Try.prog 34 = false := by kernel_rfl
@[go_sem] theorem sizeT_35 : sizeT Try.prog 35 = some 1 := by kernel_rfl
@[go_sem] theorem aggT_35 : aggT Try.prog 35 = some false := by kernel_rfl
@[go_sem] theorem bytesT_35 : bytesT Try.prog 35 = some 8 := by kernel_rfl
@[go_sem] theorem zeroT_35 : zeroT Try.prog 35 = some [AV.any] := by kernel_rfl
@[go_sem] theorem sizeT_36 : sizeT Try.prog 36 = some 1 := by kernel_rfl
@[go_sem] theorem aggT_36 : aggT Try.prog 36 = some false := by kernel_rfl
@[go_sem] theorem bytesT_36 : bytesT Try.prog 36 = some 24 := by kernel_rfl
@[go_sem] theorem zeroT_36 : zeroT Try.prog 36 = some [AV.nils] := by kernel_rfl
@[go_sem] theorem elemT_36 : elemT Try.prog 36 = some 64 := by kernel_rfl
@[go_sem] theorem isBytesT_36 : isBytesT Try.prog 36 = false := by kernel_rfl
@[go_sem] theorem sizeT_38 : sizeT Try.prog 38 = some 1 := by kernel_rfl
@[go_sem] theorem aggT_38 : aggT Try.prog 38 = some false := by kernel_rfl
@[go_sem] theorem bytesT_38 : bytesT Try.prog 38 = some 8 := by kernel_rfl
@[go_sem] theorem zeroT_38 : zeroT Try.prog 38 = some [AV.any] := by kernel_rfl
@[go_sem] theorem sizeT_39 : sizeT Try.prog 39 = some 1 := by kernel_rfl
@[go_sem] theorem aggT_39 : aggT Try.prog 39 = some false := by kernel_rfl
@[go_sem] theorem bytesT_39 : bytesT Try.prog 39 = some 8 := by kernel_rfl
@[go_sem] theorem zeroT_39 : zeroT Try.prog 39 = some [AV.any] := by kernel_rfl
@[go_sem] theorem sizeT_40 : sizeT Try.prog 40 = some 1 := by kernel_rfl
@[go_sem] theorem aggT_40 : aggT Try.prog 40 = some false := by kernel_rfl
@[go_sem] theorem bytesT_40 : bytesT Try.prog 40 = some 24 := by kernel_rfl
@[go_sem] theorem zeroT_40 : zeroT Try.prog 40 = some [AV.nils] := by kernel_rfl
@[go_sem] theorem elemT_40 : elemT Try.prog 40 = some 3 := by kernel_rfl
@[go_sem] theorem isBytesT_40 : isBytesT Try.prog 40 = false := by kernel_rfl
@[go_sem] theorem sizeT_42 : sizeT Try.prog 42 = some 1 := by kernel_rfl
@[go_sem] theorem aggT_42 : aggT Try.prog 42 = some false := by kernel_rfl
@[go_sem] theorem bytesT_42 : bytesT Try.prog 42 = some 8 := by kernel_rfl
@[go_sem] theorem zeroT_42 : zeroT Try.prog 42 = some [AV.any] := by kernel_rfl
@[go_sem] theorem sizeT_44 : sizeT Try.prog 44 = some 1 := by kernel_rfl
@[go_sem] theorem aggT_44 : aggT Try.prog 44 = some false := by kernel_rfl
@[go_sem] theorem bytesT_44 : bytesT Try.prog 44 = some 8 := by kernel_rfl
@[go_sem] theorem zeroT_44 : zeroT Try.prog 44 = some [AV.any] := by kernel_rfl
@[go_sem] theorem sizeT_45 : sizeT Try.prog 45 = some 1 := by kernel_rfl
@[go_sem] theorem aggT_45 : aggT Try.prog 45 = some false := by kernel_rfl
@[go_sem] theorem bytesT_45 : bytesT Try.prog 45 = some 8 := by kernel_rfl
@[go_sem] theorem zeroT_45 : zeroT Try.prog 45 = some [AV.any] := by kernel_rfl
@[go_sem] theorem sizeT_46 : sizeT Try.prog 46 = some 1 := by kernel_rfl
@[go_sem] theorem aggT_46 : aggT Try.prog 46 = some false := by kernel_rfl
@[go_sem] theorem bytesT_46 : bytesT Try.prog 46 = some 8 := by kernel_rfl
@[go_sem] theorem zeroT_46 : zeroT Try.prog 46 = some [AV.any] := by kernel_rfl
@[go_sem] theorem sizeT_47 : sizeT Try.prog 47 = some 1 := by kernel_rfl
@[go_sem] theorem aggT_47 : aggT Try.prog 47 = some false := by kernel_rfl
@[go_sem] theorem bytesT_47 : bytesT Try.prog 47 = some 24 := by kernel_rfl
@[go_sem] theorem zeroT_47 : zeroT Try.prog 47 = some [AV.nils] := by kernel_rfl
@[go_sem] theorem elemT_47 : elemT Try.prog 47 = some 9 := by kernel_rfl
@[go_sem] theorem isBytesT_47 : isBytesT Try.prog 47 = false := by kernel_rfl
@[go_sem] theorem sizeT_49 : sizeT Try.prog 49 = some 1 := by kernel_rfl
@[go_sem] theorem aggT_49 : aggT Try.prog 49 = some false := by kernel_rfl
@[go_sem] theorem bytesT_49 : bytesT Try.prog 49 = some 8 := by kernel_rfl
@[go_sem] theorem zeroT_49 : zeroT Try.prog 49 = some [AV.any] := by kernel_rfl
@[go_sem] theorem sizeT_50 : sizeT Try.prog 50 = some 1 := by kernel_rfl
@[go_sem] theorem aggT_50 : aggT Try.prog 50 = some false := by kernel_rfl
@[go_sem] theorem bytesT_50 : bytesT Try.prog 50 = some 8 := by kernel_rfl
@[go_sem] theorem zeroT_50 : zeroT Try.prog 50 = some [AV.any] := by kernel_rfl
@[go_sem] theorem sizeT_51 : sizeT Try.prog 51 = some 1 := by kernel_rfl
@[go_sem] theorem aggT_51 : aggT Try.prog 51 = some false := by kernel_rfl
@[go_sem] theorem bytesT_51 : bytesT Try.prog 51 = some 8 := by kernel_rfl
@[go_sem] theorem zeroT_51 : zeroT Try.prog 51 = some [AV.any] := by kernel_rfl
@[go_sem] theorem sizeT_52 : sizeT Try.prog 52 = some 1 := by kernel_rfl
@[go_sem] theorem aggT_52 : aggT Try.prog 52 = some false := by kernel_rfl
@[go_sem] theorem bytesT_52 : bytesT Try.prog 52 = some 8 := by kernel_rfl
@[go_sem] theorem zeroT_52 : zeroT Try.prog 52 = some [AV.any] := by kernel_rfl
@[go_sem] theorem sizeT_53 : sizeT Try.prog 53 = some 1 := by kernel_rfl
@[go_sem] theorem aggT_53 : aggT Try.prog 53 = some false := by kernel_rfl
@[go_sem] theorem bytesT_53 : bytesT Try.prog 53 = some 8 := by kernel_rfl
@[go_sem] theorem zeroT_53 : zeroT Try.prog 53 = some [AV.any] := by kernel_rfl
@[go_sem] theorem sizeT_54 : sizeT Try.prog 54 = some 1 := by kernel_rfl
@[go_sem] theorem aggT_54 : aggT Try.prog 54 = some false := by kernel_rfl
@[go_sem] theorem bytesT_54 : bytesT Try.prog 54 = some 8 := by kernel_rfl
@[go_sem] theorem zeroT_54 : zeroT Try.prog 54 = some [AV.any] := by kernel_rfl
@[go_sem] theorem sizeT_55 : sizeT Try.prog 55 = some 2 := by kernel_rfl
@[go_sem] theorem aggT_55 : aggT Try.prog 55 = some true := by kernel_rfl
@[go_sem] theorem bytesT_55 : bytesT Try.prog 55 = some 24 := by kernel_rfl
@[go_sem] theorem zeroT_55 : zeroT Try.prog 55 = some [AV.int .i64 (0), AV.str ⟨#[]⟩] := by kernel_rfl
@[go_sem] theorem fieldT_55_0 : fieldT Try.prog 55 0 = some (0, 3) := by kernel_rfl
@[go_sem] theorem fieldT_55_1 : fieldT Try.prog 55 1 = some (1, 9) := by kernel_rfl
@[go_sem] theorem eqK_55 : eqK Try.prog 55 = some [.int, .str] := by kernel_rfl
@[go_sem] theorem placesT_55 : placesT Try.prog 55 = some [(0, 1), (1, 1)] := by kernel_rfl
@[go_sem] theorem sizeT_56 : sizeT Try.prog 56 = some 2 := by kernel_rfl
@[go_sem] theorem aggT_56 : aggT Try.prog 56 = some true := by kernel_rfl
@[go_sem] theorem bytesT_56 : bytesT Try.prog 56 = some 24 := by kernel_rfl
@[go_sem] theorem zeroT_56 : zeroT Try.prog 56 = some [AV.int .i64 (0), AV.str ⟨#[]⟩] := by kernel_rfl
@[go_sem] theorem fieldT_56_0 : fieldT Try.prog 56 0 = some (0, 3) := by kernel_rfl
@[go_sem] theorem fieldT_56_1 : fieldT Try.prog 56 1 = some (1, 9) := by kernel_rfl
@[go_sem] theorem eqK_56 : eqK Try.prog 56 = some [.int, .str] := by kernel_rfl
@[go_sem] theorem placesT_56 : placesT Try.prog 56 = some [(0, 1), (1, 1)] := by kernel_rfl
@[go_sem] theorem sizeT_57 : sizeT Try.prog 57 = some 1 := by kernel_rfl
@[go_sem] theorem aggT_57 : aggT Try.prog 57 = some false := by kernel_rfl
@[go_sem] theorem bytesT_57 : bytesT Try.prog 57 = some 8 := by kernel_rfl
@[go_sem] theorem zeroT_57 : zeroT Try.prog 57 = some [AV.any] := by kernel_rfl
@[go_sem] theorem sizeT_58 : sizeT Try.prog 58 = some 1 := by kernel_rfl
@[go_sem] theorem aggT_58 : aggT Try.prog 58 = some false := by kernel_rfl
@[go_sem] theorem bytesT_58 : bytesT Try.prog 58 = some 8 := by kernel_rfl
@[go_sem] theorem zeroT_58 : zeroT Try.prog 58 = some [AV.any] := by kernel_rfl
@[go_sem] theorem sizeT_60 : sizeT Try.prog 60 = some 1 := by kernel_rfl
@[go_sem] theorem aggT_60 : aggT Try.prog 60 = some false := by kernel_rfl
@[go_sem] theorem bytesT_60 : bytesT Try.prog 60 = some 8 := by kernel_rfl
@[go_sem] theorem zeroT_60 : zeroT Try.prog 60 = some [AV.any] := by kernel_rfl
@[go_sem] theorem sizeT_61 : sizeT Try.prog 61 = some 1 := by kernel_rfl
@[go_sem] theorem aggT_61 : aggT Try.prog 61 = some false := by kernel_rfl
@[go_sem] theorem bytesT_61 : bytesT Try.prog 61 = some 8 := by kernel_rfl
@[go_sem] theorem zeroT_61 : zeroT Try.prog 61 = some [AV.any] := by kernel_rfl
@[go_sem] theorem sizeT_62 : sizeT Try.prog 62 = some 1 := by kernel_rfl
@[go_sem] theorem aggT_62 : aggT Try.prog 62 = some false := by kernel_rfl
@[go_sem] theorem bytesT_62 : bytesT Try.prog 62 = some 8 := by kernel_rfl
@[go_sem] theorem zeroT_62 : zeroT Try.prog 62 = some [AV.any] := by kernel_rfl
@[go_sem] theorem sizeT_63 : sizeT Try.prog 63 = some 3 := by kernel_rfl
@[go_sem] theorem aggT_63 : aggT Try.prog 63 = some true := by kernel_rfl
@[go_sem] theorem bytesT_63 : bytesT Try.prog 63 = some 32 := by kernel_rfl
@[go_sem] theorem zeroT_63 : zeroT Try.prog 63 = some [AV.int .i64 (0), AV.int .i64 (0), AV.str ⟨#[]⟩] := by kernel_rfl
@[go_sem] theorem fieldT_63_0 : fieldT Try.prog 63 0 = some (0, 3) := by kernel_rfl
@[go_sem] theorem fieldT_63_1 : fieldT Try.prog 63 1 = some (1, 3) := by kernel_rfl
@[go_sem] theorem fieldT_63_2 : fieldT Try.prog 63 2 = some (2, 9) := by kernel_rfl
@[go_sem] theorem eqK_63 : eqK Try.prog 63 = some [.int, .int, .str] := by kernel_rfl
@[go_sem] theorem placesT_63 : placesT Try.prog 63 = some [(0, 1), (1, 1), (2, 1)] := by kernel_rfl
@[go_sem] theorem sizeT_64 : sizeT Try.prog 64 = some 3 := by kernel_rfl
@[go_sem] theorem aggT_64 : aggT Try.prog 64 = some true := by kernel_rfl
@[go_sem] theorem bytesT_64 : bytesT Try.prog 64 = some 32 := by kernel_rfl
@[go_sem] theorem zeroT_64 : zeroT Try.prog 64 = some [AV.int .i64 (0), AV.int .i64 (0), AV.str ⟨#[]⟩] := by kernel_rfl
@[go_sem] theorem fieldT_64_0 : fieldT Try.prog 64 0 = some (0, 3) := by kernel_rfl
@[go_sem] theorem fieldT_64_1 : fieldT Try.prog 64 1 = some (1, 3) := by kernel_rfl
@[go_sem] theorem fieldT_64_2 : fieldT Try.prog 64 2 = some (2, 9) := by kernel_rfl
@[go_sem] theorem eqK_64 : eqK Try.prog 64 = some [.int, .int, .str] := by kernel_rfl
@[go_sem] theorem placesT_64 : placesT Try.prog 64 = some [(0, 1), (1, 1), (2, 1)] := by kernel_rfl
@[go_sem] theorem sizeT_65 : sizeT Try.prog 65 = some 2 := by kernel_rfl
@[go_sem] theorem aggT_65 : aggT Try.prog 65 = some true := by kernel_rfl
@[go_sem] theorem bytesT_65 : bytesT Try.prog 65 = some 32 := by kernel_rfl
@[go_sem] theorem zeroT_65 : zeroT Try.prog 65 = some [AV.int .i64 (0), AV.nils] := by kernel_rfl
@[go_sem] theorem fieldT_65_0 : fieldT Try.prog 65 0 = some (0, 3) := by kernel_rfl
@[go_sem] theorem fieldT_65_1 : fieldT Try.prog 65 1 = some (1, 47) := by kernel_rfl
@[go_sem] theorem placesT_65 : placesT Try.prog 65 = some [(0, 1), (1, 1)] := by kernel_rfl
@[go_sem] theorem sizeT_66 : sizeT Try.prog 66 = some 2 := by kernel_rfl
@[go_sem] theorem aggT_66 : aggT Try.prog 66 = some true := by kernel_rfl
@[go_sem] theorem bytesT_66 : bytesT Try.prog 66 = some 32 := by kernel_rfl
@[go_sem] theorem zeroT_66 : zeroT Try.prog 66 = some [AV.int .i64 (0), AV.nils] := by kernel_rfl
@[go_sem] theorem fieldT_66_0 : fieldT Try.prog 66 0 = some (0, 3) := by kernel_rfl
@[go_sem] theorem fieldT_66_1 : fieldT Try.prog 66 1 = some (1, 47) := by kernel_rfl
@[go_sem] theorem placesT_66 : placesT Try.prog 66 = some [(0, 1), (1, 1)] := by kernel_rfl
@[go_sem] theorem sizeT_68 : sizeT Try.prog 68 = some 1 := by kernel_rfl
@[go_sem] theorem aggT_68 : aggT Try.prog 68 = some false := by kernel_rfl
@[go_sem] theorem bytesT_68 : bytesT Try.prog 68 = some 8 := by kernel_rfl
@[go_sem] theorem zeroT_68 : zeroT Try.prog 68 = some [AV.any] := by kernel_rfl
@[go_sem] theorem sizeT_69 : sizeT Try.prog 69 = some 1 := by kernel_rfl
@[go_sem] theorem aggT_69 : aggT Try.prog 69 = some false := by kernel_rfl
@[go_sem] theorem bytesT_69 : bytesT Try.prog 69 = some 8 := by kernel_rfl
@[go_sem] theorem zeroT_69 : zeroT Try.prog 69 = some [AV.any] := by kernel_rfl
@[go_sem] theorem sizeT_70 : sizeT Try.prog 70 = some 1 := by kernel_rfl
@[go_sem] theorem aggT_70 : aggT Try.prog 70 = some false := by kernel_rfl
@[go_sem] theorem bytesT_70 : bytesT Try.prog 70 = some 8 := by kernel_rfl
@[go_sem] theorem zeroT_70 : zeroT Try.prog 70 = some [AV.any] := by kernel_rfl
@[go_sem] theorem sizeT_71 : sizeT Try.prog 71 = some 1 := by kernel_rfl
@[go_sem] theorem aggT_71 : aggT Try.prog 71 = some false := by kernel_rfl
@[go_sem] theorem bytesT_71 : bytesT Try.prog 71 = some 8 := by kernel_rfl
@[go_sem] theorem zeroT_71 : zeroT Try.prog 71 = some [AV.any] := by kernel_rfl
@[go_sem] theorem sizeT_72 : sizeT Try.prog 72 = some 1 := by kernel_rfl
@[go_sem] theorem aggT_72 : aggT Try.prog 72 = some false := by kernel_rfl
@[go_sem] theorem bytesT_72 : bytesT Try.prog 72 = some 8 := by kernel_rfl
@[go_sem] theorem zeroT_72 : zeroT Try.prog 72 = some [AV.any] := by kernel_rfl
@[go_sem] theorem sizeT_73 : sizeT Try.prog 73 = some 1 := by kernel_rfl
@[go_sem] theorem aggT_73 : aggT Try.prog 73 = some false := by kernel_rfl
@[go_sem] theorem bytesT_73 : bytesT Try.prog 73 = some 8 := by kernel_rfl
@[go_sem] theorem zeroT_73 : zeroT Try.prog 73 = some [AV.any] := by kernel_rfl
@[go_sem] theorem sizeT_74 : sizeT Try.prog 74 = some 1 := by kernel_rfl
@[go_sem] theorem aggT_74 : aggT Try.prog 74 = some false := by kernel_rfl
@[go_sem] theorem bytesT_74 : bytesT Try.prog 74 = some 8 := by kernel_rfl
@[go_sem] theorem zeroT_74 : zeroT Try.prog 74 = some [AV.any] := by kernel_rfl
@[go_sem] theorem sizeT_75 : sizeT Try.prog 75 = some 1 := by kernel_rfl
@[go_sem] theorem aggT_75 : aggT Try.prog 75 = some false := by kernel_rfl
@[go_sem] theorem bytesT_75 : bytesT Try.prog 75 = some 8 := by kernel_rfl
@[go_sem] theorem zeroT_75 : zeroT Try.prog 75 = some [AV.any] := by kernel_rfl
@[go_sem] theorem sizeT_77 : sizeT Try.prog 77 = some 1 := by kernel_rfl
@[go_sem] theorem aggT_77 : aggT Try.prog 77 = some false := by kernel_rfl
@[go_sem] theorem bytesT_77 : bytesT Try.prog 77 = some 8 := by kernel_rfl
@[go_sem] theorem zeroT_77 : zeroT Try.prog 77 = some [AV.any] := by kernel_rfl
@[go_sem] theorem sizeT_78 : sizeT Try.prog 78 = some 1 := by kernel_rfl
@[go_sem] theorem aggT_78 : aggT Try.prog 78 = some false := by kernel_rfl
@[go_sem] theorem bytesT_78 : bytesT Try.prog 78 = some 8 := by kernel_rfl
@[go_sem] theorem zeroT_78 : zeroT Try.prog 78 = some [AV.any] := by kernel_rfl
@[go_sem] theorem sizeT_79 : sizeT Try.prog 79 = some 1 := by kernel_rfl
@[go_sem] theorem aggT_79 : aggT Try.prog 79 = some false := by kernel_rfl
@[go_sem] theorem bytesT_79 : bytesT Try.prog 79 = some 8 := by kernel_rfl
@[go_sem] theorem zeroT_79 : zeroT Try.prog 79 = some [AV.any] := by kernel_rfl
@[go_sem] theorem sizeT_81 : sizeT Try.prog 81 = some 1 := by kernel_rfl
@[go_sem] theorem aggT_81 : aggT Try.prog 81 = some false := by kernel_rfl
@[go_sem] theorem bytesT_81 : bytesT Try.prog 81 = some 8 := by kernel_rfl
@[go_sem] theorem zeroT_81 : zeroT Try.prog 81 = some [AV.any] := by kernel_rfl
@[go_sem] theorem sizeT_82 : sizeT Try.prog 82 = some 1 := by kernel_rfl
@[go_sem] theorem aggT_82 : aggT Try.prog 82 = some false := by kernel_rfl
@[go_sem] theorem bytesT_82 : bytesT Try.prog 82 = some 8 := by kernel_rfl
@[go_sem] theorem zeroT_82 : zeroT Try.prog 82 = some [AV.any] := by kernel_rfl
@[go_sem] theorem sizeT_83 : sizeT Try.prog 83 = some 1 := by kernel_rfl
@[go_sem] theorem aggT_83 : aggT Try.prog 83 = some false := by kernel_rfl
@[go_sem] theorem bytesT_83 : bytesT Try.prog 83 = some 8 := by kernel_rfl
@[go_sem] theorem zeroT_83 : zeroT Try.prog 83 = some [AV.any] := by kernel_rfl
@[go_sem] theorem sizeT_84 : sizeT Try.prog 84 = some 1 := by kernel_rfl
@[go_sem] theorem aggT_84 : aggT Try.prog 84 = some false := by kernel_rfl
@[go_sem] theorem bytesT_84 : bytesT Try.prog 84 = some 8 := by kernel_rfl
@[go_sem] theorem zeroT_84 : zeroT Try.prog 84 = some [AV.any] := by kernel_rfl
@[go_sem] theorem sizeT_85 : sizeT Try.prog 85 = some 1 := by kernel_rfl
@[go_sem] theorem aggT_85 : aggT Try.prog 85 = some false := by kernel_rfl
@[go_sem] theorem bytesT_85 : bytesT Try.prog 85 = some 8 := by kernel_rfl
@[go_sem] theorem zeroT_85 : zeroT Try.prog 85 = some [AV.any] := by kernel_rfl
@[go_sem] theorem sizeT_87 : sizeT Try.prog 87 = some 1 := by kernel_rfl
@[go_sem] theorem aggT_87 : aggT Try.prog 87 = some false := by kernel_rfl
@[go_sem] theorem bytesT_87 : bytesT Try.prog 87 = some 8 := by kernel_rfl
@[go_sem] theorem zeroT_87 : zeroT Try.prog 87 = some [AV.any] := by kernel_rfl
@[go_sem] theorem sizeT_88 : sizeT Try.prog 88 = some 1 := by kernel_rfl
@[go_sem] theorem aggT_88 : aggT Try.prog 88 = some false := by kernel_rfl
@[go_sem] theorem bytesT_88 : bytesT Try.prog 88 = some 24 := by kernel_rfl
@[go_sem] theorem zeroT_88 : zeroT Try.prog 88 = some [AV.nils] := by kernel_rfl
@[go_sem] theorem elemT_88 : elemT Try.prog 88 = some 5 := by kernel_rfl
@[go_sem] theorem isBytesT_88 : isBytesT Try.prog 88 = true := by kernel_rfl
@[go_sem] theorem sizeT_89 : sizeT Try.prog 89 = some 1 := by kernel_rfl
@[go_sem] theorem aggT_89 : aggT Try.prog 89 = some false := by kernel_rfl
@[go_sem] theorem bytesT_89 : bytesT Try.prog 89 = some 8 := by kernel_rfl
@[go_sem] theorem zeroT_89 : zeroT Try.prog 89 = some [AV.any] := by kernel_rfl
@[go_sem] theorem sizeT_90 : sizeT Try.prog 90 = some 1 := by kernel_rfl
@[go_sem] theorem aggT_90 : aggT Try.prog 90 = some false := by kernel_rfl
@[go_sem] theorem bytesT_90 : bytesT Try.prog 90 = some 8 := by kernel_rfl
@[go_sem] theorem zeroT_90 : zeroT Try.prog 90 = some [AV.any] := by kernel_rfl
@[go_sem] theorem sizeT_92 : sizeT Try.prog 92 = some 1 := by kernel_rfl
@[go_sem] theorem aggT_92 : aggT Try.prog 92 = some false := by kernel_rfl
@[go_sem] theorem bytesT_92 : bytesT Try.prog 92 = some 8 := by kernel_rfl
@[go_sem] theorem zeroT_92 : zeroT Try.prog 92 = some [AV.any] := by kernel_rfl
@[go_sem] theorem sizeT_93 : sizeT Try.prog 93 = some 1 := by kernel_rfl
@[go_sem] theorem aggT_93 : aggT Try.prog 93 = some false := by kernel_rfl
@[go_sem] theorem bytesT_93 : bytesT Try.prog 93 = some 8 := by kernel_rfl
@[go_sem] theorem zeroT_93 : zeroT Try.prog 93 = some [AV.any] := by kernel_rfl
@[go_sem] theorem sizeT_94 : sizeT Try.prog 94 = some 1 := by kernel_rfl
@[go_sem] theorem aggT_94 : aggT Try.prog 94 = some false := by kernel_rfl
@[go_sem] theorem bytesT_94 : bytesT Try.prog 94 = some 8 := by kernel_rfl
@[go_sem] theorem zeroT_94 : zeroT Try.prog 94 = some [AV.any] := by kernel_rfl
@[go_sem] theorem sizeT_95 : sizeT Try.prog 95 = some 1 := by kernel_rfl
@[go_sem] theorem aggT_95 : aggT Try.prog 95 = some false := by kernel_rfl
@[go_sem] theorem bytesT_95 : bytesT Try.prog 95 = some 8 := by kernel_rfl
@[go_sem] theorem zeroT_95 : zeroT Try.prog 95 = some [AV.int .u64 (0)] := by kernel_rfl
@[go_sem] theorem intT_95 : intT Try.prog 95 = some .u64 := by kernel_rfl
@[go_sem] theorem sizeT_97 : sizeT Try.prog 97 = some 1 := by kernel_rfl
@[go_sem] theorem aggT_97 : aggT Try.prog 97 = some false := by kernel_rfl
@[go_sem] theorem bytesT_97 : bytesT Try.prog 97 = some 8 := by kernel_rfl
@[go_sem] theorem zeroT_97 : zeroT Try.prog 97 = some [AV.any] := by kernel_rfl
@[go_sem] theorem sizeT_98 : sizeT Try.prog 98 = some 1 := by kernel_rfl
@[go_sem] theorem aggT_98 : aggT Try.prog 98 = some false := by kernel_rfl
@[go_sem] theorem bytesT_98 : bytesT Try.prog 98 = some 8 := by kernel_rfl
@[go_sem] theorem zeroT_98 : zeroT Try.prog 98 = some [AV.any] := by kernel_rfl
@[go_sem] theorem sizeT_99 : sizeT Try.prog 99 = some 1 := by kernel_rfl
@[go_sem] theorem aggT_99 : aggT Try.prog 99 = some false := by kernel_rfl
@[go_sem] theorem bytesT_99 : bytesT Try.prog 99 = some 8 := by kernel_rfl
@[go_sem] theorem zeroT_99 : zeroT Try.prog 99 = some [AV.any] := by kernel_rfl
@[go_sem] theorem sizeT_100 : sizeT Try.prog 100 = some 1 := by kernel_rfl
@[go_sem] theorem aggT_100 : aggT Try.prog 100 = some false := by kernel_rfl
@[go_sem] theorem bytesT_100 : bytesT Try.prog 100 = some 8 := by kernel_rfl
@[go_sem] theorem zeroT_100 : zeroT Try.prog 100 = some [AV.any] := by kernel_rfl
@[go_sem] theorem sizeT_101 : sizeT Try.prog 101 = some 1 := by kernel_rfl
@[go_sem] theorem aggT_101 : aggT Try.prog 101 = some false := by kernel_rfl
@[go_sem] theorem bytesT_101 : bytesT Try.prog 101 = some 4 := by kernel_rfl
@[go_sem] theorem zeroT_101 : zeroT Try.prog 101 = some [AV.int .u32 (0)] := by kernel_rfl
@[go_sem] theorem intT_101 : intT Try.prog 101 = some .u32 := by kernel_rfl
@[go_sem] theorem sizeT_103 : sizeT Try.prog 103 = some 1 := by kernel_rfl
@[go_sem] theorem aggT_103 : aggT Try.prog 103 = some false := by kernel_rfl
@[go_sem] theorem bytesT_103 : bytesT Try.prog 103 = some 8 := by kernel_rfl
@[go_sem] theorem zeroT_103 : zeroT Try.prog 103 = some [AV.any] := by kernel_rfl
@[go_sem] theorem sizeT_104 : sizeT Try.prog 104 = some 1 := by kernel_rfl
@[go_sem] theorem aggT_104 : aggT Try.prog 104 = some false := by kernel_rfl
@[go_sem] theorem bytesT_104 : bytesT Try.prog 104 = some 8 := by kernel_rfl
@[go_sem] theorem zeroT_104 : zeroT Try.prog 104 = some [AV.int .u64 (0)] := by kernel_rfl
@[go_sem] theorem intT_104 : intT Try.prog 104 = some .u64 := by kernel_rfl
@[go_sem] theorem sizeT_106 : sizeT Try.prog 106 = some 1 := by kernel_rfl
@[go_sem] theorem aggT_106 : aggT Try.prog 106 = some false := by kernel_rfl
@[go_sem] theorem bytesT_106 : bytesT Try.prog 106 = some 8 := by kernel_rfl
@[go_sem] theorem zeroT_106 : zeroT Try.prog 106 = some [AV.any] := by kernel_rfl
@[go_sem] theorem sizeT_107 : sizeT Try.prog 107 = some 1 := by kernel_rfl
@[go_sem] theorem aggT_107 : aggT Try.prog 107 = some false := by kernel_rfl
@[go_sem] theorem bytesT_107 : bytesT Try.prog 107 = some 8 := by kernel_rfl
@[go_sem] theorem zeroT_107 : zeroT Try.prog 107 = some [AV.any] := by kernel_rfl
@[go_sem] theorem sizeT_108 : sizeT Try.prog 108 = some 1 := by kernel_rfl
@[go_sem] theorem aggT_108 : aggT Try.prog 108 = some false := by kernel_rfl
@[go_sem] theorem bytesT_108 : bytesT Try.prog 108 = some 8 := by kernel_rfl
@[go_sem] theorem zeroT_108 : zeroT Try.prog 108 = some [AV.any] := by kernel_rfl
@[go_sem] theorem sizeT_109 : sizeT Try.prog 109 = some 2 := by kernel_rfl
@[go_sem] theorem aggT_109 : aggT Try.prog 109 = some true := by kernel_rfl
@[go_sem] theorem bytesT_109 : bytesT Try.prog 109 = some 32 := by kernel_rfl
@[go_sem] theorem fieldT_109_0 : fieldT Try.prog 109 0 = some (0, 108) := by kernel_rfl
@[go_sem] theorem fieldT_109_1 : fieldT Try.prog 109 1 = some (1, 88) := by kernel_rfl
@[go_sem] theorem placesT_109 : placesT Try.prog 109 = some [(0, 1), (1, 1)] := by kernel_rfl
@[go_sem] theorem sizeT_110 : sizeT Try.prog 110 = some 2 := by kernel_rfl
@[go_sem] theorem aggT_110 : aggT Try.prog 110 = some true := by kernel_rfl
@[go_sem] theorem bytesT_110 : bytesT Try.prog 110 = some 32 := by kernel_rfl
@[go_sem] theorem fieldT_110_0 : fieldT Try.prog 110 0 = some (0, 108) := by kernel_rfl
@[go_sem] theorem fieldT_110_1 : fieldT Try.prog 110 1 = some (1, 88) := by kernel_rfl
@[go_sem] theorem placesT_110 : placesT Try.prog 110 = some [(0, 1), (1, 1)] := by kernel_rfl
@[go_sem] theorem sizeT_111 : sizeT Try.prog 111 = some 1 := by kernel_rfl
@[go_sem] theorem aggT_111 : aggT Try.prog 111 = some false := by kernel_rfl
@[go_sem] theorem bytesT_111 : bytesT Try.prog 111 = some 8 := by kernel_rfl
@[go_sem] theorem zeroT_111 : zeroT Try.prog 111 = some [AV.any] := by kernel_rfl
@[go_sem] theorem sizeT_115 : sizeT Try.prog 115 = some 1 := by kernel_rfl
@[go_sem] theorem aggT_115 : aggT Try.prog 115 = some false := by kernel_rfl
@[go_sem] theorem bytesT_115 : bytesT Try.prog 115 = some 8 := by kernel_rfl
@[go_sem] theorem zeroT_115 : zeroT Try.prog 115 = some [AV.any] := by kernel_rfl
@[go_sem] theorem sizeT_116 : sizeT Try.prog 116 = some 1 := by kernel_rfl
@[go_sem] theorem aggT_116 : aggT Try.prog 116 = some false := by kernel_rfl
@[go_sem] theorem bytesT_116 : bytesT Try.prog 116 = some 8 := by kernel_rfl
@[go_sem] theorem zeroT_116 : zeroT Try.prog 116 = some [AV.any] := by kernel_rfl
@[go_sem] theorem sizeT_117 : sizeT Try.prog 117 = some 1 := by kernel_rfl
@[go_sem] theorem aggT_117 : aggT Try.prog 117 = some false := by kernel_rfl
@[go_sem] theorem bytesT_117 : bytesT Try.prog 117 = some 8 := by kernel_rfl
@[go_sem] theorem zeroT_117 : zeroT Try.prog 117 = some [AV.any] := by kernel_rfl
@[go_sem] theorem sizeT_119 : sizeT Try.prog 119 = some 1 := by kernel_rfl
@[go_sem] theorem aggT_119 : aggT Try.prog 119 = some false := by kernel_rfl
@[go_sem] theorem bytesT_119 : bytesT Try.prog 119 = some 8 := by kernel_rfl
@[go_sem] theorem zeroT_119 : zeroT Try.prog 119 = some [AV.any] := by kernel_rfl
@[go_sem] theorem sizeT_120 : sizeT Try.prog 120 = some 1 := by kernel_rfl
@[go_sem] theorem aggT_120 : aggT Try.prog 120 = some false := by kernel_rfl
@[go_sem] theorem bytesT_120 : bytesT Try.prog 120 = some 8 := by kernel_rfl
@[go_sem] theorem zeroT_120 : zeroT Try.prog 120 = some [AV.any] := by kernel_rfl
@[go_sem] theorem sizeT_121 : sizeT Try.prog 121 = some 4 := by kernel_rfl
@[go_sem] theorem aggT_121 : aggT Try.prog 121 = some true := by kernel_rfl
@[go_sem] theorem bytesT_121 : bytesT Try.prog 121 = some 40 := by kernel_rfl
@[go_sem] theorem fieldT_121_0 : fieldT Try.prog 121 0 = some (0, 17) := by kernel_rfl
@[go_sem] theorem fieldT_121_1 : fieldT Try.prog 121 1 = some (1, 17) := by kernel_rfl
@[go_sem] theorem fieldT_121_2 : fieldT Try.prog 121 2 = some (2, 17) := by kernel_rfl
@[go_sem] theorem fieldT_121_3 : fieldT Try.prog 121 3 = some (3, 9) := by kernel_rfl
@[go_sem] theorem placesT_121 : placesT Try.prog 121 = some [(0, 1), (1, 1), (2, 1), (3, 1)] := by kernel_rfl
@[go_sem] theorem sizeT_122 : sizeT Try.prog 122 = some 4 := by kernel_rfl
@[go_sem] theorem aggT_122 : aggT Try.prog 122 = some true := by kernel_rfl
@[go_sem] theorem bytesT_122 : bytesT Try.prog 122 = some 40 := by kernel_rfl
@[go_sem] theorem fieldT_122_0 : fieldT Try.prog 122 0 = some (0, 17) := by kernel_rfl
@[go_sem] theorem fieldT_122_1 : fieldT Try.prog 122 1 = some (1, 17) := by kernel_rfl
@[go_sem] theorem fieldT_122_2 : fieldT Try.prog 122 2 = some (2, 17) := by kernel_rfl
@[go_sem] theorem fieldT_122_3 : fieldT Try.prog 122 3 = some (3, 9) := by kernel_rfl
@[go_sem] theorem placesT_122 : placesT Try.prog 122 = some [(0, 1), (1, 1), (2, 1), (3, 1)] := by kernel_rfl
@[go_sem] theorem sizeT_124 : sizeT Try.prog 124 = some 0 := by kernel_rfl
@[go_sem] theorem aggT_124 : aggT Try.prog 124 = some true := by kernel_rfl
@[go_sem] theorem bytesT_124 : bytesT Try.prog 124 = some 0 := by kernel_rfl
@[go_sem] theorem zeroT_124 : zeroT Try.prog 124 = some [] := by kernel_rfl
@[go_sem] theorem fieldT_124_0 : fieldT Try.prog 124 0 = some (0, 123) := by kernel_rfl
@[go_sem] theorem placesT_124 : placesT Try.prog 124 = some [(0, 0)] := by kernel_rfl
@[go_sem] theorem sizeT_125 : sizeT Try.prog 125 = some 0 := by kernel_rfl
@[go_sem] theorem aggT_125 : aggT Try.prog 125 = some true := by kernel_rfl
@[go_sem] theorem bytesT_125 : bytesT Try.prog 125 = some 0 := by kernel_rfl
@[go_sem] theorem zeroT_125 : zeroT Try.prog 125 = some [] := by kernel_rfl
@[go_sem] theorem fieldT_125_0 : fieldT Try.prog 125 0 = some (0, 123) := by kernel_rfl
@[go_sem] theorem placesT_125 : placesT Try.prog 125 = some [(0, 0)] := by kernel_rfl
@[go_sem] theorem sizeT_126 : sizeT Try.prog 126 = some 1 := by kernel_rfl
@[go_sem] theorem aggT_126 : aggT Try.prog 126 = some false := by kernel_rfl
@[go_sem] theorem bytesT_126 : bytesT Try.prog 126 = some 1 := by kernel_rfl
@[go_sem] theorem zeroT_126 : zeroT Try.prog 126 = some [AV.int .u8 (0)] := by kernel_rfl
@[go_sem] theorem intT_126 : intT Try.prog 126 = some .u8 := by kernel_rfl
@[go_sem] theorem sizeT_127 : sizeT Try.prog 127 = some 1 := by kernel_rfl
@[go_sem] theorem aggT_127 : aggT Try.prog 127 = some false := by kernel_rfl
@[go_sem] theorem bytesT_127 : bytesT Try.prog 127 = some 1 := by kernel_rfl
@[go_sem] theorem zeroT_127 : zeroT Try.prog 127 = some [AV.int .u8 (0)] := by kernel_rfl
@[go_sem] theorem intT_127 : intT Try.prog 127 = some .u8 := by kernel_rfl
@[go_sem] theorem sizeT_128 : sizeT Try.prog 128 = some 1 := by kernel_rfl
@[go_sem] theorem aggT_128 : aggT Try.prog 128 = some false := by kernel_rfl
@[go_sem] theorem bytesT_128 : bytesT Try.prog 128 = some 8 := by kernel_rfl
@[go_sem] theorem zeroT_128 : zeroT Try.prog 128 = some [AV.any] := by kernel_rfl
@[go_sem] theorem sizeT_129 : sizeT Try.prog 129 = some 1 := by kernel_rfl
@[go_sem] theorem aggT_129 : aggT Try.prog 129 = some false := by kernel_rfl
@[go_sem] theorem bytesT_129 : bytesT Try.prog 129 = some 4 := by kernel_rfl
@[go_sem] theorem zeroT_129 : zeroT Try.prog 129 = some [AV.int .i32 (0)] := by kernel_rfl
@[go_sem] theorem intT_129 : intT Try.prog 129 = some .i32 := by kernel_rfl
@[go_sem] theorem sizeT_130 : sizeT Try.prog 130 = some 1 := by kernel_rfl
@[go_sem] theorem aggT_130 : aggT Try.prog 130 = some false := by kernel_rfl
@[go_sem] theorem bytesT_130 : bytesT Try.prog 130 = some 4 := by kernel_rfl
@[go_sem] theorem zeroT_130 : zeroT Try.prog 130 = some [AV.int .i32 (0)] := by kernel_rfl
@[go_sem] theorem intT_130 : intT Try.prog 130 = some .i32 := by kernel_rfl
@[go_sem] theorem sizeT_131 : sizeT Try.prog 131 = some 11 := by kernel_rfl
@[go_sem] theorem aggT_131 : aggT Try.prog 131 = some true := by kernel_rfl
@[go_sem] theorem bytesT_131 : bytesT Try.prog 131 = some 48 := by kernel_rfl
@[go_sem] theorem fieldT_131_0 : fieldT Try.prog 131 0 = some (0, 12) := by kernel_rfl
@[go_sem] theorem fieldT_131_1 : fieldT Try.prog 131 1 = some (1, 12) := by kernel_rfl
@[go_sem] theorem fieldT_131_2 : fieldT Try.prog 131 2 = some (2, 101) := by kernel_rfl
@[go_sem] theorem fieldT_131_3 : fieldT Try.prog 131 3 = some (3, 126) := by kernel_rfl
@[go_sem] theorem fieldT_131_4 : fieldT Try.prog 131 4 = some (4, 5) := by kernel_rfl
@[go_sem] theorem fieldT_131_5 : fieldT Try.prog 131 5 = some (5, 5) := by kernel_rfl
@[go_sem] theorem fieldT_131_6 : fieldT Try.prog 131 6 = some (6, 127) := by kernel_rfl
@[go_sem] theorem fieldT_131_7 : fieldT Try.prog 131 7 = some (7, 128) := by kernel_rfl
@[go_sem] theorem fieldT_131_8 : fieldT Try.prog 131 8 = some (8, 117) := by kernel_rfl
@[go_sem] theorem fieldT_131_9 : fieldT Try.prog 131 9 = some (9, 129) := by kernel_rfl
@[go_sem] theorem fieldT_131_10 : fieldT Try.prog 131 10 = some (10, 130) := by kernel_rfl
@[go_sem] theorem placesT_131 : placesT Try.prog 131 = some [(0, 1), (1, 1), (2, 1), (3, 1), (4, 1), (5, 1), (6, 1), (7, 1), (8, 1), (9, 1), (10, 1)] := by kernel_rfl
@[go_sem] theorem sizeT_132 : sizeT Try.prog 132 = some 11 := by kernel_rfl
@[go_sem] theorem aggT_132 : aggT Try.prog 132 = some true := by kernel_rfl
@[go_sem] theorem bytesT_132 : bytesT Try.prog 132 = some 48 := by kernel_rfl
@[go_sem] theorem fieldT_132_0 : fieldT Try.prog 132 0 = some (0, 12) := by kernel_rfl
@[go_sem] theorem fieldT_132_1 : fieldT Try.prog 132 1 = some (1, 12) := by kernel_rfl
@[go_sem] theorem fieldT_132_2 : fieldT Try.prog 132 2 = some (2, 101) := by kernel_rfl
@[go_sem] theorem fieldT_132_3 : fieldT Try.prog 132 3 = some (3, 126) := by kernel_rfl
@[go_sem] theorem fieldT_132_4 : fieldT Try.prog 132 4 = some (4, 5) := by kernel_rfl
@[go_sem] theorem fieldT_132_5 : fieldT Try.prog 132 5 = some (5, 5) := by kernel_rfl
@[go_sem] theorem fieldT_132_6 : fieldT Try.prog 132 6 = some (6, 127) := by kernel_rfl
@[go_sem] theorem fieldT_132_7 : fieldT Try.prog 132 7 = some (7, 128) := by kernel_rfl
@[go_sem] theorem fieldT_132_8 : fieldT Try.prog 132 8 = some (8, 117) := by kernel_rfl
@[go_sem] theorem fieldT_132_9 : fieldT Try.prog 132 9 = some (9, 129) := by kernel_rfl
@[go_sem] theorem fieldT_132_10 : fieldT Try.prog 132 10 = some (10, 130) := by kernel_rfl
@[go_sem] theorem placesT_132 : placesT Try.prog 132 = some [(0, 1), (1, 1), (2, 1), (3, 1), (4, 1), (5, 1), (6, 1), (7, 1), (8, 1), (9, 1), (10, 1)] := by kernel_rfl

end Go.Proofs.Ytdfdagfgkijpcaa.Ty
