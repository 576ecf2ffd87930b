/- What the types of this seat are, for the abstract machine: printed by a program of this work, each row reckoned by the kernel. -/
import Derived.Test.YtdmcmfdmnlckdaaAb15
import Derived.Test.YtdmcmfdmnlckdaaProg
namespace Go.Proofs.Ytdmcmfdmnlckdaa.Ty
open Go Go.Proofs Go.Proofs.Ytdmcmfdmnlckdaa.Ab

@[go_sem] theorem sizeT_1 : sizeT Try.prog 1 = some 1 := by kernel_rfl
@[go_sem] theorem aggT_1 : aggT Try.prog 1 = some false := by kernel_rfl
@[go_sem] theorem bytesT_1 : bytesT Try.prog 1 = some 8 := by kernel_rfl
@[go_sem] theorem zeroT_1 : zeroT Try.prog 1 = some [AV.any] := by kernel_rfl
@[go_sem] theorem sizeT_2 : sizeT Try.prog 2 = some 1 := by kernel_rfl
@[go_sem] theorem aggT_2 : aggT Try.prog 2 = some false := by kernel_rfl
@[go_sem] theorem bytesT_2 : bytesT Try.prog 2 = some 8 := by kernel_rfl
@[go_sem] theorem zeroT_2 : zeroT Try.prog 2 = some [AV.int .i64 (0)] := by kernel_rfl
@[go_sem] theorem intT_2 : intT Try.prog 2 = some .i64 := by kernel_rfl
@[go_sem] theorem sizeT_3 : sizeT Try.prog 3 = some 1 := by kernel_rfl
@[go_sem] theorem aggT_3 : aggT Try.prog 3 = some false := by kernel_rfl
@[go_sem] theorem bytesT_3 : bytesT Try.prog 3 = some 8 := by kernel_rfl
@[go_sem] theorem zeroT_3 : zeroT Try.prog 3 = some [AV.int .i64 (0)] := by kernel_rfl
@[go_sem] theorem intT_3 : intT Try.prog 3 = some .i64 := by kernel_rfl
@[go_sem] theorem sizeT_4 : sizeT Try.prog 4 = some 1 := by kernel_rfl
@[go_sem] theorem aggT_4 : aggT Try.prog 4 = some false := by kernel_rfl
@[go_sem] theorem bytesT_4 : bytesT Try.prog 4 = some 1 := by kernel_rfl
@[go_sem] theorem zeroT_4 : zeroT Try.prog 4 = some [AV.bool false] := by kernel_rfl
@[go_sem] theorem isBoolT_4 : isBoolT Try.prog 4 = true := by kernel_rfl
@[go_sem] theorem sizeT_5 : sizeT Try.prog 5 = some 1 := by kernel_rfl
@[go_sem] theorem aggT_5 : aggT Try.prog 5 = some false := by kernel_rfl
@[go_sem] theorem bytesT_5 : bytesT Try.prog 5 = some 1 := by kernel_rfl
@[go_sem] theorem zeroT_5 : zeroT Try.prog 5 = some [AV.int .u8 (0)] := by kernel_rfl
@[go_sem] theorem intT_5 : intT Try.prog 5 = some .u8 := by kernel_rfl
@[go_sem] theorem sizeT_6 : sizeT Try.prog 6 = some 1 := by kernel_rfl
@[go_sem] theorem aggT_6 : aggT Try.prog 6 = some false := by kernel_rfl
@[go_sem] theorem bytesT_6 : bytesT Try.prog 6 = some 1 := by kernel_rfl
@[go_sem] theorem zeroT_6 : zeroT Try.prog 6 = some [AV.int .u8 (0)] := by kernel_rfl
@[go_sem] theorem intT_6 : intT Try.prog 6 = some .u8 := by kernel_rfl
@[go_sem] theorem sizeT_7 : sizeT Try.prog 7 = some 4 := by kernel_rfl
@[go_sem] theorem aggT_7 : aggT Try.prog 7 = some true := by kernel_rfl
@[go_sem] theorem bytesT_7 : bytesT Try.prog 7 = some 24 := by kernel_rfl
@[go_sem] theorem zeroT_7 : zeroT Try.prog 7 = some [AV.int .i64 (0), AV.int .i64 (0), AV.bool false, AV.int .u8 (0)] := by kernel_rfl
@[go_sem] theorem fieldT_7_0 : fieldT Try.prog 7 0 = some (0, 2) := by kernel_rfl
@[go_sem] theorem fieldT_7_1 : fieldT Try.prog 7 1 = some (1, 3) := by kernel_rfl
@[go_sem] theorem fieldT_7_2 : fieldT Try.prog 7 2 = some (2, 4) := by kernel_rfl
@[go_sem] theorem fieldT_7_3 : fieldT Try.prog 7 3 = some (3, 6) := by kernel_rfl
@[go_sem] theorem eqK_7 : eqK Try.prog 7 = some [.int, .int, .bool, .int] := by kernel_rfl
@[go_sem] theorem placesT_7 : placesT Try.prog 7 = some [(0, 1), (1, 1), (2, 1), (3, 1)] := by kernel_rfl
@[go_sem] theorem sizeT_8 : sizeT Try.prog 8 = some 4 := by kernel_rfl
@[go_sem] theorem aggT_8 : aggT Try.prog 8 = some true := by kernel_rfl
@[go_sem] theorem bytesT_8 : bytesT Try.prog 8 = some 24 := by kernel_rfl
@[go_sem] theorem zeroT_8 : zeroT Try.prog 8 = some [AV.int .i64 (0), AV.int .i64 (0), AV.bool false, AV.int .u8 (0)] := by kernel_rfl
@[go_sem] theorem fieldT_8_0 : fieldT Try.prog 8 0 = some (0, 2) := by kernel_rfl
@[go_sem] theorem fieldT_8_1 : fieldT Try.prog 8 1 = some (1, 3) := by kernel_rfl
@[go_sem] theorem fieldT_8_2 : fieldT Try.prog 8 2 = some (2, 4) := by kernel_rfl
@[go_sem] theorem fieldT_8_3 : fieldT Try.prog 8 3 = some (3, 6) := by kernel_rfl
@[go_sem] theorem eqK_8 : eqK Try.prog 8 = some [.int, .int, .bool, .int] := by kernel_rfl
@[go_sem] theorem placesT_8 : placesT Try.prog 8 = some [(0, 1), (1, 1), (2, 1), (3, 1)] := by kernel_rfl
@[go_sem] theorem sizeT_9 : sizeT Try.prog 9 = some 1 := by kernel_rfl
@[go_sem] theorem aggT_9 : aggT Try.prog 9 = some false := by kernel_rfl
@[go_sem] theorem bytesT_9 : bytesT Try.prog 9 = some 16 := by kernel_rfl
@[go_sem] theorem zeroT_9 : zeroT Try.prog 9 = some [AV.str ⟨#[]⟩] := by kernel_rfl
@[go_sem] theorem isStrT_9 : isStrT Try.prog 9 = true := by kernel_rfl
@[go_sem] theorem isBytesT_9 : isBytesT Try.prog 9 = false := by kernel_rfl
@[go_sem] theorem sizeT_10 : sizeT Try.prog 10 = some 1 := by kernel_rfl
@[go_sem] theorem aggT_10 : aggT Try.prog 10 = some false := by kernel_rfl
@[go_sem] theorem bytesT_10 : bytesT Try.prog 10 = some 16 := by kernel_rfl
@[go_sem] theorem zeroT_10 : zeroT Try.prog 10 = some [AV.str ⟨#[]⟩] := by kernel_rfl
@[go_sem] theorem isStrT_10 : isStrT Try.prog 10 = true := by kernel_rfl
@[go_sem] theorem isBytesT_10 : isBytesT Try.prog 10 = false := by kernel_rfl
@[go_sem] theorem sizeT_11 : sizeT Try.prog 11 = some 1 := by kernel_rfl
@[go_sem] theorem aggT_11 : aggT Try.prog 11 = some false := by kernel_rfl
@[go_sem] theorem bytesT_11 : bytesT Try.prog 11 = some 16 := by kernel_rfl
@[go_sem] theorem zeroT_11 : zeroT Try.prog 11 = some [AV.str ⟨#[]⟩] := by kernel_rfl
@[go_sem] theorem isStrT_11 : isStrT Try.prog 11 = true := by kernel_rfl
@[go_sem] theorem isBytesT_11 : isBytesT Try.prog 11 = false := by kernel_rfl
@[go_sem] theorem sizeT_12 : sizeT Try.prog 12 = some 1 := by kernel_rfl
@[go_sem] theorem aggT_12 : aggT Try.prog 12 = some false := by kernel_rfl
@[go_sem] theorem bytesT_12 : bytesT Try.prog 12 = some 8 := by kernel_rfl
@[go_sem] theorem zeroT_12 : zeroT Try.prog 12 = some [AV.int .u64 (0)] := by kernel_rfl
@[go_sem] theorem intT_12 : intT Try.prog 12 = some .u64 := by kernel_rfl
@[go_sem] theorem sizeT_13 : sizeT Try.prog 13 = some 2 := by kernel_rfl
@[go_sem] theorem aggT_13 : aggT Try.prog 13 = some true := by kernel_rfl
@[go_sem] theorem bytesT_13 : bytesT Try.prog 13 = some 24 := by kernel_rfl
@[go_sem] theorem zeroT_13 : zeroT Try.prog 13 = some [AV.str ⟨#[]⟩, AV.int .u64 (0)] := by kernel_rfl
@[go_sem] theorem fieldT_13_0 : fieldT Try.prog 13 0 = some (0, 9) := by kernel_rfl
@[go_sem] theorem fieldT_13_1 : fieldT Try.prog 13 1 = some (1, 12) := by kernel_rfl
@[go_sem] theorem placesT_13 : placesT Try.prog 13 = some [(0, 1), (1, 1)] := by kernel_rfl
@[go_sem] theorem sizeT_14 : sizeT Try.prog 14 = some 2 := by kernel_rfl
@[go_sem] theorem aggT_14 : aggT Try.prog 14 = some true := by kernel_rfl
@[go_sem] theorem bytesT_14 : bytesT Try.prog 14 = some 24 := by kernel_rfl
@[go_sem] theorem zeroT_14 : zeroT Try.prog 14 = some [AV.str ⟨#[]⟩, AV.int .u64 (0)] := by kernel_rfl
@[go_sem] theorem fieldT_14_0 : fieldT Try.prog 14 0 = some (0, 9) := by kernel_rfl
@[go_sem] theorem fieldT_14_1 : fieldT Try.prog 14 1 = some (1, 12) := by kernel_rfl
@[go_sem] theorem placesT_14 : placesT Try.prog 14 = some [(0, 1), (1, 1)] := by kernel_rfl
@[go_sem] theorem sizeT_15 : sizeT Try.prog 15 = some 1 := by kernel_rfl
@[go_sem] theorem aggT_15 : aggT Try.prog 15 = some false := by kernel_rfl
@[go_sem] theorem bytesT_15 : bytesT Try.prog 15 = some 8 := by kernel_rfl
@[go_sem] theorem zeroT_15 : zeroT Try.prog 15 = some [AV.any] := by kernel_rfl
@[go_sem] theorem sizeT_16 : sizeT Try.prog 16 = some 1 := by kernel_rfl
@[go_sem] theorem aggT_16 : aggT Try.prog 16 = some false := by kernel_rfl
@[go_sem] theorem bytesT_16 : bytesT Try.prog 16 = some 8 := by kernel_rfl
@[go_sem] theorem zeroT_16 : zeroT Try.prog 16 = some [AV.any] := by kernel_rfl
@[go_sem] theorem sizeT_17 : sizeT Try.prog 17 = some 1 := by kernel_rfl
@[go_sem] theorem aggT_17 : aggT Try.prog 17 = some false := by kernel_rfl
@[go_sem] theorem bytesT_17 : bytesT Try.prog 17 = some 8 := by kernel_rfl
@[go_sem] theorem zeroT_17 : zeroT Try.prog 17 = some [AV.any] := by kernel_rfl
@[go_sem] theorem sizeT_18 : sizeT Try.prog 18 = some 1 := by kernel_rfl
@[go_sem] theorem aggT_18 : aggT Try.prog 18 = some true := by kernel_rfl
@[go_sem] theorem bytesT_18 : bytesT Try.prog 18 = some 8 := by kernel_rfl
@[go_sem] theorem zeroT_18 : zeroT Try.prog 18 = some [AV.any] := by kernel_rfl
@[go_sem] theorem fieldT_18_0 : fieldT Try.prog 18 0 = some (0, 17) := by kernel_rfl
@[go_sem] theorem placesT_18 : placesT Try.prog 18 = some [(0, 1)] := by kernel_rfl
@[go_sem] theorem sizeT_19 : sizeT Try.prog 19 = some 1 := by kernel_rfl
@[go_sem] theorem aggT_19 : aggT Try.prog 19 = some true := by kernel_rfl
@[go_sem] theorem bytesT_19 : bytesT Try.prog 19 = some 8 := by kernel_rfl
@[go_sem] theorem zeroT_19 : zeroT Try.prog 19 = some [AV.any] := by kernel_rfl
@[go_sem] theorem fieldT_19_0 : fieldT Try.prog 19 0 = some (0, 17) := by kernel_rfl
@[go_sem] theorem placesT_19 : placesT Try.prog 19 = some [(0, 1)] := by kernel_rfl
@[go_sem] theorem sizeT_21 : sizeT Try.prog 21 = some 1 := by kernel_rfl
@[go_sem] theorem aggT_21 : aggT Try.prog 21 = some false := by kernel_rfl
@[go_sem] theorem bytesT_21 : bytesT Try.prog 21 = some 4 := by kernel_rfl
@[go_sem] theorem zeroT_21 : zeroT Try.prog 21 = some [AV.int .i32 (0)] := by kernel_rfl
@[go_sem] theorem intT_21 : intT Try.prog 21 = some .i32 := by kernel_rfl
@[go_sem] theorem sizeT_22 : sizeT Try.prog 22 = some 1 := by kernel_rfl
@[go_sem] theorem aggT_22 : aggT Try.prog 22 = some false := by kernel_rfl
@[go_sem] theorem bytesT_22 : bytesT Try.prog 22 = some 24 := by kernel_rfl
@[go_sem] theorem zeroT_22 : zeroT Try.prog 22 = some [AV.nils] := by kernel_rfl
@[go_sem] theorem elemT_22 : elemT Try.prog 22 = some 57 := by kernel_rfl
@[go_sem] theorem isBytesT_22 : isBytesT Try.prog 22 = false := by kernel_rfl
@[go_sem] theorem sizeT_23 : sizeT Try.prog 23 = some 1 := by kernel_rfl
@[go_sem] theorem aggT_23 : aggT Try.prog 23 = some false := by kernel_rfl
@[go_sem] theorem bytesT_23 : bytesT Try.prog 23 = some 24 := by kernel_rfl
@[go_sem] theorem zeroT_23 : zeroT Try.prog 23 = some [AV.nils] := by kernel_rfl
@[go_sem] theorem elemT_23 : elemT Try.prog 23 = some 108 := by kernel_rfl
@[go_sem] theorem isBytesT_23 : isBytesT Try.prog 23 = false := by kernel_rfl
@[go_sem] theorem sizeT_24 : sizeT Try.prog 24 = some 1 := by kernel_rfl
@[go_sem] theorem aggT_24 : aggT Try.prog 24 = some false := by kernel_rfl
@[go_sem] theorem bytesT_24 : bytesT Try.prog 24 = some 24 := by kernel_rfl
@[go_sem] theorem zeroT_24 : zeroT Try.prog 24 = some [AV.nils] := by kernel_rfl
@[go_sem] theorem elemT_24 : elemT Try.prog 24 = some 62 := by kernel_rfl
@[go_sem] theorem isBytesT_24 : isBytesT Try.prog 24 = false := by kernel_rfl
@[go_sem] theorem sizeT_25 : sizeT Try.prog 25 = some 3 := by kernel_rfl
@[go_sem] theorem aggT_25 : aggT Try.prog 25 = some true := by kernel_rfl
@[go_sem] theorem bytesT_25 : bytesT Try.prog 25 = some 72 := by kernel_rfl
@[go_sem] theorem zeroT_25 : zeroT Try.prog 25 = some [AV.nils, AV.nils, AV.nils] := by kernel_rfl
@[go_sem] theorem fieldT_25_0 : fieldT Try.prog 25 0 = some (0, 22) := by kernel_rfl
@[go_sem] theorem fieldT_25_1 : fieldT Try.prog 25 1 = some (1, 23) := by kernel_rfl
@[go_sem] theorem fieldT_25_2 : fieldT Try.prog 25 2 = some (2, 24) := by kernel_rfl
@[go_sem] theorem placesT_25 : placesT Try.prog 25 = some [(0, 1), (1, 1), (2, 1)] := by kernel_rfl
@[go_sem] theorem sizeT_26 : sizeT Try.prog 26 = some 3 := by kernel_rfl
@[go_sem] theorem aggT_26 : aggT Try.prog 26 = some true := by kernel_rfl
@[go_sem] theorem bytesT_26 : bytesT Try.prog 26 = some 72 := by kernel_rfl
@[go_sem] theorem zeroT_26 : zeroT Try.prog 26 = some [AV.nils, AV.nils, AV.nils] := by kernel_rfl
@[go_sem] theorem fieldT_26_0 : fieldT Try.prog 26 0 = some (0, 22) := by kernel_rfl
@[go_sem] theorem fieldT_26_1 : fieldT Try.prog 26 1 = some (1, 23) := by kernel_rfl
@[go_sem] theorem fieldT_26_2 : fieldT Try.prog 26 2 = some (2, 24) := by kernel_rfl
@[go_sem] theorem placesT_26 : placesT Try.prog 26 = some [(0, 1), (1, 1), (2, 1)] := by kernel_rfl
@[go_sem] theorem sizeT_27 : sizeT Try.prog 27 = some 1 := by kernel_rfl
@[go_sem] theorem aggT_27 : aggT Try.prog 27 = some false := by kernel_rfl
@[go_sem] theorem bytesT_27 : bytesT Try.prog 27 = some 8 := by kernel_rfl
@[go_sem] theorem zeroT_27 : zeroT Try.prog 27 = some [AV.any] := by kernel_rfl
@[go_sem] theorem sizeT_28 : sizeT Try.prog 28 = some 1 := by kernel_rfl
@[go_sem] theorem aggT_28 : aggT Try.prog 28 = some false := by kernel_rfl
@[go_sem] theorem bytesT_28 : bytesT Try.prog 28 = some 8 := by kernel_rfl
@[go_sem] theorem zeroT_28 : zeroT Try.prog 28 = some [AV.any] := by kernel_rfl
@[go_sem] theorem sizeT_29 : sizeT Try.prog 29 = some 1 := by kernel_rfl
@[go_sem] theorem aggT_29 : aggT Try.prog 29 = some false := by kernel_rfl
@[go_sem] theorem bytesT_29 : bytesT Try.prog 29 = some 8 := by kernel_rfl
@[go_sem] theorem zeroT_29 : zeroT Try.prog 29 = some [AV.int .i64 (0)] := by kernel_rfl
@[go_sem] theorem intT_29 : intT Try.prog 29 = some .i64 := by kernel_rfl
@[go_sem] theorem sizeT_31 : sizeT Try.prog 31 = some 1 := by kernel_rfl
@[go_sem] theorem aggT_31 : aggT Try.prog 31 = some false := by kernel_rfl
@[go_sem] theorem bytesT_31 : bytesT Try.prog 31 = some 8 := by kernel_rfl
@[go_sem] theorem zeroT_31 : zeroT Try.prog 31 = some [AV.any] := by kernel_rfl
@[go_sem] theorem sizeT_32 : sizeT Try.prog 32 = some 1 := by kernel_rfl
@[go_sem] theorem aggT_32 : aggT Try.prog 32 = some false := by kernel_rfl
@[go_sem] theorem bytesT_32 : bytesT Try.prog 32 = some 8 := by kernel_rfl
@[go_sem] theorem zeroT_32 : zeroT Try.prog 32 = some [AV.any] := by kernel_rfl
@[go_sem] theorem sizeT_34 : sizeT Try.prog 34 = some 1 := by kernel_rfl
@[go_sem] theorem aggT_34 : aggT Try.prog 34 = some false := by kernel_rfl
@[go_sem] theorem bytesT_34 : bytesT Try.prog 34 = some 8 := by kernel_rfl
@[go_sem] theorem zeroT_34 : zeroT Try.prog 34 = some [AV.any] := by kernel_rfl
@[go_sem] theorem sizeT_35 : sizeT Try.prog 35 = some 3 := by kernel_rfl
@[go_sem] theorem aggT_35 : aggT Try.prog 35 = some true := by kernel_rfl
@[go_sem] theorem bytesT_35 : bytesT Try.prog 35 = some 32 := by kernel_rfl
@[go_sem] theorem zeroT_35 : zeroT Try.prog 35 = some [AV.int .i64 (0), AV.int .i64 (0), AV.str ⟨#[]⟩] := by kernel_rfl
@[go_sem] theorem fieldT_35_0 : fieldT Try.prog 35 0 = some (0, 3) := by kernel_rfl
@[go_sem] theorem fieldT_35_1 : fieldT Try.prog 35 1 = some (1, 3) := by kernel_rfl
@[go_sem] theorem fieldT_35_2 : fieldT Try.prog 35 2 = some (2, 9) := by kernel_rfl
@[go_sem] theorem eqK_35 : eqK Try.prog 35 = some [.int, .int, .str] := by kernel_rfl
@[go_sem] theorem placesT_35 : placesT Try.prog 35 = some [(0, 1), (1, 1), (2, 1)] := by kernel_rfl
@[go_sem] theorem sizeT_36 : sizeT Try.prog 36 = some 3 := by kernel_rfl
@[go_sem] theorem aggT_36 : aggT Try.prog 36 = some true := by kernel_rfl
@[go_sem] theorem bytesT_36 : bytesT Try.prog 36 = some 32 := by kernel_rfl
@[go_sem] theorem zeroT_36 : zeroT Try.prog 36 = some [AV.int .i64 (0), AV.int .i64 (0), AV.str ⟨#[]⟩] := by kernel_rfl
@[go_sem] theorem fieldT_36_0 : fieldT Try.prog 36 0 = some (0, 3) := by kernel_rfl
@[go_sem] theorem fieldT_36_1 : fieldT Try.prog 36 1 = some (1, 3) := by kernel_rfl
@[go_sem] theorem fieldT_36_2 : fieldT Try.prog 36 2 = some (2, 9) := by kernel_rfl
@[go_sem] theorem eqK_36 : eqK Try.prog 36 = some [.int, .int, .str] := by kernel_rfl
@[go_sem] theorem placesT_36 : placesT Try.prog 36 = some [(0, 1), (1, 1), (2, 1)] := by kernel_rfl
@[go_sem] theorem sizeT_38 : sizeT Try.prog 38 = some 1 := by kernel_rfl
@[go_sem] theorem aggT_38 : aggT Try.prog 38 = some false := by kernel_rfl
@[go_sem] theorem bytesT_38 : bytesT Try.prog 38 = some 8 := by kernel_rfl
@[go_sem] theorem zeroT_38 : zeroT Try.prog 38 = some [AV.any] := by kernel_rfl
@[go_sem] theorem sizeT_39 : sizeT Try.prog 39 = some 1 := by kernel_rfl
@[go_sem] theorem aggT_39 : aggT Try.prog 39 = some false := by kernel_rfl
@[go_sem] theorem bytesT_39 : bytesT Try.prog 39 = some 8 := by kernel_rfl
@[go_sem] theorem zeroT_39 : zeroT Try.prog 39 = some [AV.any] := by kernel_rfl
@[go_sem] theorem sizeT_40 : sizeT Try.prog 40 = some 1 := by kernel_rfl
@[go_sem] theorem aggT_40 : aggT Try.prog 40 = some false := by kernel_rfl
@[go_sem] theorem bytesT_40 : bytesT Try.prog 40 = some 8 := by kernel_rfl
@[go_sem] theorem zeroT_40 : zeroT Try.prog 40 = some [AV.any] := by kernel_rfl
@[go_sem] theorem sizeT_41 : sizeT Try.prog 41 = some 1 := by kernel_rfl
@[go_sem] theorem aggT_41 : aggT Try.prog 41 = some false := by kernel_rfl
@[go_sem] theorem bytesT_41 : bytesT Try.prog 41 = some 8 := by kernel_rfl
@[go_sem] theorem zeroT_41 : zeroT Try.prog 41 = some [AV.any] := by kernel_rfl
@[go_sem] theorem sizeT_42 : sizeT Try.prog 42 = some 1 := by kernel_rfl
@[go_sem] theorem aggT_42 : aggT Try.prog 42 = some false := by kernel_rfl
@[go_sem] theorem bytesT_42 : bytesT Try.prog 42 = some 8 := by kernel_rfl
@[go_sem] theorem zeroT_42 : zeroT Try.prog 42 = some [AV.any] := by kernel_rfl
@[go_sem] theorem sizeT_43 : sizeT Try.prog 43 = some 1 := by kernel_rfl
@[go_sem] theorem aggT_43 : aggT Try.prog 43 = some false := by kernel_rfl
@[go_sem] theorem bytesT_43 : bytesT Try.prog 43 = some 8 := by kernel_rfl
@[go_sem] theorem zeroT_43 : zeroT Try.prog 43 = some [AV.any] := by kernel_rfl
@[go_sem] theorem sizeT_44 : sizeT Try.prog 44 = some 1 := by kernel_rfl
@[go_sem] theorem aggT_44 : aggT Try.prog 44 = some false := by kernel_rfl
@[go_sem] theorem bytesT_44 : bytesT Try.prog 44 = some 24 := by kernel_rfl
@[go_sem] theorem zeroT_44 : zeroT Try.prog 44 = some [AV.nils] := by kernel_rfl
@[go_sem] theorem elemT_44 : elemT Try.prog 44 = some 9 := by kernel_rfl
@[go_sem] theorem isBytesT_44 : isBytesT Try.prog 44 = false := by kernel_rfl
@[go_sem] theorem sizeT_45 : sizeT Try.prog 45 = some 4 := by kernel_rfl
@[go_sem] theorem aggT_45 : aggT Try.prog 45 = some true := by kernel_rfl
@[go_sem] theorem bytesT_45 : bytesT Try.prog 45 = some 56 := by kernel_rfl
@[go_sem] theorem zeroT_45 : zeroT Try.prog 45 = some [AV.str ⟨#[]⟩, AV.nils, AV.int .i64 (0), AV.int .i64 (0)] := by kernel_rfl
@[go_sem] theorem fieldT_45_0 : fieldT Try.prog 45 0 = some (0, 9) := by kernel_rfl
@[go_sem] theorem fieldT_45_1 : fieldT Try.prog 45 1 = some (1, 44) := by kernel_rfl
@[go_sem] theorem fieldT_45_2 : fieldT Try.prog 45 2 = some (2, 3) := by kernel_rfl
@[go_sem] theorem fieldT_45_3 : fieldT Try.prog 45 3 = some (3, 3) := by kernel_rfl
@[go_sem] theorem placesT_45 : placesT Try.prog 45 = some [(0, 1), (1, 1), (2, 1), (3, 1)] := by kernel_rfl
@[go_sem] theorem sizeT_46 : sizeT Try.prog 46 = some 4 := by kernel_rfl
@[go_sem] theorem aggT_46 : aggT Try.prog 46 = some true := by kernel_rfl
@[go_sem] theorem bytesT_46 : bytesT Try.prog 46 = some 56 := by kernel_rfl
@[go_sem] theorem zeroT_46 : zeroT Try.prog 46 = some [AV.str ⟨#[]⟩, AV.nils, AV.int .i64 (0), AV.int .i64 (0)] := by kernel_rfl
@[go_sem] theorem fieldT_46_0 : fieldT Try.prog 46 0 = some (0, 9) := by kernel_rfl
@[go_sem] theorem fieldT_46_1 : fieldT Try.prog 46 1 = some (1, 44) := by kernel_rfl
@[go_sem] theorem fieldT_46_2 : fieldT Try.prog 46 2 = some (2, 3) := by kernel_rfl
@[go_sem] theorem fieldT_46_3 : fieldT Try.prog 46 3 = some (3, 3) := by kernel_rfl
@[go_sem] theorem placesT_46 : placesT Try.prog 46 = some [(0, 1), (1, 1), (2, 1), (3, 1)] := by kernel_rfl
@[go_sem] theorem sizeT_47 : sizeT Try.prog 47 = some 1 := by kernel_rfl
@[go_sem] theorem aggT_47 : aggT Try.prog 47 = some false := by kernel_rfl
@[go_sem] theorem bytesT_47 : bytesT Try.prog 47 = some 8 := by kernel_rfl
@[go_sem] theorem zeroT_47 : zeroT Try.prog 47 = some [AV.any] := by kernel_rfl
@[go_sem] theorem sizeT_49 : sizeT Try.prog 49 = some 1 := by kernel_rfl
@[go_sem] theorem aggT_49 : aggT Try.prog 49 = some false := by kernel_rfl
@[go_sem] theorem bytesT_49 : bytesT Try.prog 49 = some 8 := by kernel_rfl
@[go_sem] theorem zeroT_49 : zeroT Try.prog 49 = some [AV.any] := by kernel_rfl
@[go_sem] theorem sizeT_50 : sizeT Try.prog 50 = some 1 := by kernel_rfl
@[go_sem] theorem aggT_50 : aggT Try.prog 50 = some false := by kernel_rfl
@[go_sem] theorem bytesT_50 : bytesT Try.prog 50 = some 8 := by kernel_rfl
@[go_sem] theorem zeroT_50 : zeroT Try.prog 50 = some [AV.any] := by kernel_rfl
@[go_sem] theorem sizeT_51 : sizeT Try.prog 51 = some 1 := by kernel_rfl
@[go_sem] theorem aggT_51 : aggT Try.prog 51 = some false := by kernel_rfl
@[go_sem] theorem bytesT_51 : bytesT Try.prog 51 = some 8 := by kernel_rfl
@[go_sem] theorem zeroT_51 : zeroT Try.prog 51 = some [AV.any] := by kernel_rfl
@[go_sem] theorem sizeT_53 : sizeT Try.prog 53 = some 1 := by kernel_rfl
@[go_sem] theorem aggT_53 : aggT Try.prog 53 = some false := by kernel_rfl
@[go_sem] theorem bytesT_53 : bytesT Try.prog 53 = some 8 := by kernel_rfl
@[go_sem] theorem zeroT_53 : zeroT Try.prog 53 = some [AV.any] := by kernel_rfl
@[go_sem] theorem sizeT_54 : sizeT Try.prog 54 = some 1 := by kernel_rfl
@[go_sem] theorem aggT_54 : aggT Try.prog 54 = some false := by kernel_rfl
@[go_sem] theorem bytesT_54 : bytesT Try.prog 54 = some 8 := by kernel_rfl
@[go_sem] theorem zeroT_54 : zeroT Try.prog 54 = some [AV.any] := by kernel_rfl
@[go_sem] theorem sizeT_55 : sizeT Try.prog 55 = some 1 := by kernel_rfl
@[go_sem] theorem aggT_55 : aggT Try.prog 55 = some false := by kernel_rfl
@[go_sem] theorem bytesT_55 : bytesT Try.prog 55 = some 8 := by kernel_rfl
@[go_sem] theorem zeroT_55 : zeroT Try.prog 55 = some [AV.any] := by kernel_rfl
@[go_sem] theorem sizeT_56 : sizeT Try.prog 56 = some 3 := by kernel_rfl
@[go_sem] theorem aggT_56 : aggT Try.prog 56 = some true := by kernel_rfl
@[go_sem] theorem bytesT_56 : bytesT Try.prog 56 = some 48 := by kernel_rfl
@[go_sem] theorem zeroT_56 : zeroT Try.prog 56 = some [AV.str ⟨#[]⟩, AV.nils, AV.int .i64 (0)] := by kernel_rfl
@[go_sem] theorem fieldT_56_0 : fieldT Try.prog 56 0 = some (0, 9) := by kernel_rfl
@[go_sem] theorem fieldT_56_1 : fieldT Try.prog 56 1 = some (1, 44) := by kernel_rfl
@[go_sem] theorem fieldT_56_2 : fieldT Try.prog 56 2 = some (2, 3) := by kernel_rfl
@[go_sem] theorem placesT_56 : placesT Try.prog 56 = some [(0, 1), (1, 1), (2, 1)] := by kernel_rfl
@[go_sem] theorem sizeT_57 : sizeT Try.prog 57 = some 3 := by kernel_rfl
@[go_sem] theorem aggT_57 : aggT Try.prog 57 = some true := by kernel_rfl
@[go_sem] theorem bytesT_57 : bytesT Try.prog 57 = some 48 := by kernel_rfl
@[go_sem] theorem zeroT_57 : zeroT Try.prog 57 = some [AV.str ⟨#[]⟩, AV.nils, AV.int .i64 (0)] := by kernel_rfl
@[go_sem] theorem fieldT_57_0 : fieldT Try.prog 57 0 = some (0, 9) := by kernel_rfl
@[go_sem] theorem fieldT_57_1 : fieldT Try.prog 57 1 = some (1, 44) := by kernel_rfl
@[go_sem] theorem fieldT_57_2 : fieldT Try.prog 57 2 = some (2, 3) := by kernel_rfl
@[go_sem] theorem placesT_57 : placesT Try.prog 57 = some [(0, 1), (1, 1), (2, 1)] := by kernel_rfl
@[go_sem] theorem sizeT_58 : sizeT Try.prog 58 = some 3 := by kernel_rfl
@[go_sem] theorem aggT_58 : aggT Try.prog 58 = some true := by kernel_rfl
@[go_sem] theorem bytesT_58 : bytesT Try.prog 58 = some 40 := by kernel_rfl
@[go_sem] theorem zeroT_58 : zeroT Try.prog 58 = some [AV.str ⟨#[]⟩, AV.str ⟨#[]⟩, AV.int .i64 (0)] := by kernel_rfl
@[go_sem] theorem fieldT_58_0 : fieldT Try.prog 58 0 = some (0, 9) := by kernel_rfl
@[go_sem] theorem fieldT_58_1 : fieldT Try.prog 58 1 = some (1, 9) := by kernel_rfl
@[go_sem] theorem fieldT_58_2 : fieldT Try.prog 58 2 = some (2, 3) := by kernel_rfl
@[go_sem] theorem eqK_58 : eqK Try.prog 58 = some [.str, .str, .int] := by kernel_rfl
@[go_sem] theorem placesT_58 : placesT Try.prog 58 = some [(0, 1), (1, 1), (2, 1)] := by kernel_rfl
@[go_sem] theorem sizeT_59 : sizeT Try.prog 59 = some 3 := by kernel_rfl
@[go_sem] theorem aggT_59 : aggT Try.prog 59 = some true := by kernel_rfl
@[go_sem] theorem bytesT_59 : bytesT Try.prog 59 = some 40 := by kernel_rfl
@[go_sem] theorem zeroT_59 : zeroT Try.prog 59 = some [AV.str ⟨#[]⟩, AV.str ⟨#[]⟩, AV.int .i64 (0)] := by kernel_rfl
@[go_sem] theorem fieldT_59_0 : fieldT Try.prog 59 0 = some (0, 9) := by kernel_rfl
@[go_sem] theorem fieldT_59_1 : fieldT Try.prog 59 1 = some (1, 9) := by kernel_rfl
@[go_sem] theorem fieldT_59_2 : fieldT Try.prog 59 2 = some (2, 3) := by kernel_rfl
@[go_sem] theorem eqK_59 : eqK Try.prog 59 = some [.str, .str, .int] := by kernel_rfl
@[go_sem] theorem placesT_59 : placesT Try.prog 59 = some [(0, 1), (1, 1), (2, 1)] := by kernel_rfl
@[go_sem] theorem sizeT_60 : sizeT Try.prog 60 = some 1 := by kernel_rfl
@[go_sem] theorem aggT_60 : aggT Try.prog 60 = some false := by kernel_rfl
@[go_sem] theorem bytesT_60 : bytesT Try.prog 60 = some 24 := by kernel_rfl
@[go_sem] theorem zeroT_60 : zeroT Try.prog 60 = some [AV.nils] := by kernel_rfl
@[go_sem] theorem elemT_60 : elemT Try.prog 60 = some 65 := by kernel_rfl
@[go_sem] theorem isBytesT_60 : isBytesT Try.prog 60 = false := by kernel_rfl
@[go_sem] theorem sizeT_61 : sizeT Try.prog 61 = some 8 := by kernel_rfl
@[go_sem] theorem aggT_61 : aggT Try.prog 61 = some true := by kernel_rfl
@[go_sem] theorem bytesT_61 : bytesT Try.prog 61 = some 112 := by kernel_rfl
@[go_sem] theorem zeroT_61 : zeroT Try.prog 61 = some [AV.str ⟨#[]⟩, AV.str ⟨#[]⟩, AV.int .i64 (0), AV.str ⟨#[]⟩, AV.nils, AV.str ⟨#[]⟩, AV.int .i64 (0), AV.bool false] := by kernel_rfl
@[go_sem] theorem fieldT_61_0 : fieldT Try.prog 61 0 = some (0, 59) := by kernel_rfl
@[go_sem] theorem fieldT_61_1 : fieldT Try.prog 61 1 = some (3, 9) := by kernel_rfl
@[go_sem] theorem fieldT_61_2 : fieldT Try.prog 61 2 = some (4, 60) := by kernel_rfl
@[go_sem] theorem fieldT_61_3 : fieldT Try.prog 61 3 = some (5, 9) := by kernel_rfl
@[go_sem] theorem fieldT_61_4 : fieldT Try.prog 61 4 = some (6, 3) := by kernel_rfl
@[go_sem] theorem fieldT_61_5 : fieldT Try.prog 61 5 = some (7, 4) := by kernel_rfl
@[go_sem] theorem placesT_61 : placesT Try.prog 61 = some [(0, 3), (3, 1), (4, 1), (5, 1), (6, 1), (7, 1)] := by kernel_rfl
@[go_sem] theorem sizeT_62 : sizeT Try.prog 62 = some 8 := by kernel_rfl
@[go_sem] theorem aggT_62 : aggT Try.prog 62 = some true := by kernel_rfl
@[go_sem] theorem bytesT_62 : bytesT Try.prog 62 = some 112 := by kernel_rfl
@[go_sem] theorem zeroT_62 : zeroT Try.prog 62 = some [AV.str ⟨#[]⟩, AV.str ⟨#[]⟩, AV.int .i64 (0), AV.str ⟨#[]⟩, AV.nils, AV.str ⟨#[]⟩, AV.int .i64 (0), AV.bool false] := by kernel_rfl
@[go_sem] theorem fieldT_62_0 : fieldT Try.prog 62 0 = some (0, 59) := by kernel_rfl
@[go_sem] theorem fieldT_62_1 : fieldT Try.prog 62 1 = some (3, 9) := by kernel_rfl
@[go_sem] theorem fieldT_62_2 : fieldT Try.prog 62 2 = some (4, 60) := by kernel_rfl
@[go_sem] theorem fieldT_62_3 : fieldT Try.prog 62 3 = some (5, 9) := by kernel_rfl
@[go_sem] theorem fieldT_62_4 : fieldT Try.prog 62 4 = some (6, 3) := by kernel_rfl
@[go_sem] theorem fieldT_62_5 : fieldT Try.prog 62 5 = some (7, 4) := by kernel_rfl
@[go_sem] theorem placesT_62 : placesT Try.prog 62 = some [(0, 3), (3, 1), (4, 1), (5, 1), (6, 1), (7, 1)] := by kernel_rfl
@[go_sem] theorem sizeT_63 : sizeT Try.prog 63 = some 1 := by kernel_rfl
@[go_sem] theorem aggT_63 : aggT Try.prog 63 = some false := by kernel_rfl
@[go_sem] theorem bytesT_63 : bytesT Try.prog 63 = some 8 := by kernel_rfl
@[go_sem] theorem zeroT_63 : zeroT Try.prog 63 = some [AV.any] := by kernel_rfl
@[go_sem] theorem sizeT_64 : sizeT Try.prog 64 = some 2 := by kernel_rfl
@[go_sem] theorem aggT_64 : aggT Try.prog 64 = some true := by kernel_rfl
@[go_sem] theorem bytesT_64 : bytesT Try.prog 64 = some 24 := by kernel_rfl
@[go_sem] theorem zeroT_64 : zeroT Try.prog 64 = some [AV.str ⟨#[]⟩, AV.int .i64 (0)] := by kernel_rfl
@[go_sem] theorem fieldT_64_0 : fieldT Try.prog 64 0 = some (0, 9) := by kernel_rfl
@[go_sem] theorem fieldT_64_1 : fieldT Try.prog 64 1 = some (1, 3) := by kernel_rfl
@[go_sem] theorem eqK_64 : eqK Try.prog 64 = some [.str, .int] := by kernel_rfl
@[go_sem] theorem placesT_64 : placesT Try.prog 64 = some [(0, 1), (1, 1)] := by kernel_rfl
@[go_sem] theorem sizeT_65 : sizeT Try.prog 65 = some 2 := by kernel_rfl
@[go_sem] theorem aggT_65 : aggT Try.prog 65 = some true := by kernel_rfl
@[go_sem] theorem bytesT_65 : bytesT Try.prog 65 = some 24 := by kernel_rfl
@[go_sem] theorem zeroT_65 : zeroT Try.prog 65 = some [AV.str ⟨#[]⟩, AV.int .i64 (0)] := by kernel_rfl
@[go_sem] theorem fieldT_65_0 : fieldT Try.prog 65 0 = some (0, 9) := by kernel_rfl
@[go_sem] theorem fieldT_65_1 : fieldT Try.prog 65 1 = some (1, 3) := by kernel_rfl
@[go_sem] theorem eqK_65 : eqK Try.prog 65 = some [.str, .int] := by kernel_rfl
@[go_sem] theorem placesT_65 : placesT Try.prog 65 = some [(0, 1), (1, 1)] := by kernel_rfl
@[go_sem] theorem sizeT_66 : sizeT Try.prog 66 = some 1 := by kernel_rfl
@[go_sem] theorem aggT_66 : aggT Try.prog 66 = some false := by kernel_rfl
@[go_sem] theorem bytesT_66 : bytesT Try.prog 66 = some 8 := by kernel_rfl
@[go_sem] theorem zeroT_66 : zeroT Try.prog 66 = some [AV.any] := by kernel_rfl
@[go_sem] theorem sizeT_67 : sizeT Try.prog 67 = some 1 := by kernel_rfl
@[go_sem] theorem aggT_67 : aggT Try.prog 67 = some false := by kernel_rfl
@[go_sem] theorem bytesT_67 : bytesT Try.prog 67 = some 8 := by kernel_rfl
@[go_sem] theorem zeroT_67 : zeroT Try.prog 67 = some [AV.any] := by kernel_rfl
@[go_sem] theorem sizeT_69 : sizeT Try.prog 69 = some 1 := by kernel_rfl
@[go_sem] theorem aggT_69 : aggT Try.prog 69 = some false := by kernel_rfl
@[go_sem] theorem bytesT_69 : bytesT Try.prog 69 = some 8 := by kernel_rfl
@[go_sem] theorem zeroT_69 : zeroT Try.prog 69 = some [AV.any] := by kernel_rfl
@[go_sem] theorem sizeT_70 : sizeT Try.prog 70 = some 1 := by kernel_rfl
@[go_sem] theorem aggT_70 : aggT Try.prog 70 = some false := by kernel_rfl
@[go_sem] theorem bytesT_70 : bytesT Try.prog 70 = some 8 := by kernel_rfl
@[go_sem] theorem zeroT_70 : zeroT Try.prog 70 = some [AV.any] := by kernel_rfl
@[go_sem] theorem sizeT_71 : sizeT Try.prog 71 = some 1 := by kernel_rfl
@[go_sem] theorem aggT_71 : aggT Try.prog 71 = some false := by kernel_rfl
@[go_sem] theorem bytesT_71 : bytesT Try.prog 71 = some 8 := by kernel_rfl
@[go_sem] theorem zeroT_71 : zeroT Try.prog 71 = some [AV.any] := by kernel_rfl
@[go_sem] theorem sizeT_72 : sizeT Try.prog 72 = some 1 := by kernel_rfl
@[go_sem] theorem aggT_72 : aggT Try.prog 72 = some false := by kernel_rfl
@[go_sem] theorem bytesT_72 : bytesT Try.prog 72 = some 8 := by kernel_rfl
@[go_sem] theorem zeroT_72 : zeroT Try.prog 72 = some [AV.any] := by kernel_rfl
@[go_sem] theorem sizeT_73 : sizeT Try.prog 73 = some 1 := by kernel_rfl
@[go_sem] theorem aggT_73 : aggT Try.prog 73 = some false := by kernel_rfl
@[go_sem] theorem bytesT_73 : bytesT Try.prog 73 = some 24 := by kernel_rfl
@[go_sem] theorem zeroT_73 : zeroT Try.prog 73 = some [AV.nils] := by kernel_rfl
@[go_sem] theorem elemT_73 : elemT Try.prog 73 = some 3 := by kernel_rfl
@[go_sem] theorem isBytesT_73 : isBytesT Try.prog 73 = false := by kernel_rfl
@[go_sem] theorem sizeT_75 : sizeT Try.prog 75 = some 1 := by kernel_rfl
@[go_sem] theorem aggT_75 : aggT Try.prog 75 = some false := by kernel_rfl
@[go_sem] theorem bytesT_75 : bytesT Try.prog 75 = some 8 := by kernel_rfl
@[go_sem] theorem zeroT_75 : zeroT Try.prog 75 = some [AV.any] := by kernel_rfl
@[go_sem] theorem sizeT_76 : sizeT Try.prog 76 = some 1 := by kernel_rfl
@[go_sem] theorem aggT_76 : aggT Try.prog 76 = some false := by kernel_rfl
@[go_sem] theorem bytesT_76 : bytesT Try.prog 76 = some 8 := by kernel_rfl
@[go_sem] theorem zeroT_76 : zeroT Try.prog 76 = some [AV.any] := by kernel_rfl
@[go_sem] theorem sizeT_77 : sizeT Try.prog 77 = some 1 := by kernel_rfl
@[go_sem] theorem aggT_77 : aggT Try.prog 77 = some false := by kernel_rfl
@[go_sem] theorem bytesT_77 : bytesT Try.prog 77 = some 8 := by kernel_rfl
@[go_sem] theorem zeroT_77 : zeroT Try.prog 77 = some [AV.any] := by kernel_rfl
@[go_sem] theorem sizeT_78 : sizeT Try.prog 78 = some 1 := by kernel_rfl
@[go_sem] theorem aggT_78 : aggT Try.prog 78 = some false := by kernel_rfl
@[go_sem] theorem bytesT_78 : bytesT Try.prog 78 = some 8 := by kernel_rfl
@[go_sem] theorem zeroT_78 : zeroT Try.prog 78 = some [AV.any] := by kernel_rfl
@[go_sem] theorem sizeT_79 : sizeT Try.prog 79 = some 1 := by kernel_rfl
@[go_sem] theorem aggT_79 : aggT Try.prog 79 = some false := by kernel_rfl
@[go_sem] theorem bytesT_79 : bytesT Try.prog 79 = some 8 := by kernel_rfl
@[go_sem] theorem zeroT_79 : zeroT Try.prog 79 = some [AV.any] := by kernel_rfl
@[go_sem] theorem sizeT_80 : sizeT Try.prog 80 = some 1 := by kernel_rfl
@[go_sem] theorem aggT_80 : aggT Try.prog 80 = some false := by kernel_rfl
@[go_sem] theorem bytesT_80 : bytesT Try.prog 80 = some 8 := by kernel_rfl
@[go_sem] theorem zeroT_80 : zeroT Try.prog 80 = some [AV.any] := by kernel_rfl
@[go_sem] theorem sizeT_81 : sizeT Try.prog 81 = some 1 := by kernel_rfl
@[go_sem] theorem aggT_81 : aggT Try.prog 81 = some false := by kernel_rfl
@[go_sem] theorem bytesT_81 : bytesT Try.prog 81 = some 8 := by kernel_rfl
@[go_sem] theorem zeroT_81 : zeroT Try.prog 81 = some [AV.any] := by kernel_rfl
@[go_sem] theorem sizeT_82 : sizeT Try.prog 82 = some 3 := by kernel_rfl
@[go_sem] theorem aggT_82 : aggT Try.prog 82 = some true := by kernel_rfl
@[go_sem] theorem bytesT_82 : bytesT Try.prog 82 = some 56 := by kernel_rfl
@[go_sem] theorem zeroT_82 : zeroT Try.prog 82 = some [AV.nils, AV.nils, AV.bool false] := by kernel_rfl
@[go_sem] theorem fieldT_82_0 : fieldT Try.prog 82 0 = some (0, 73) := by kernel_rfl
@[go_sem] theorem fieldT_82_1 : fieldT Try.prog 82 1 = some (1, 73) := by kernel_rfl
@[go_sem] theorem fieldT_82_2 : fieldT Try.prog 82 2 = some (2, 4) := by kernel_rfl
@[go_sem] theorem placesT_82 : placesT Try.prog 82 = some [(0, 1), (1, 1), (2, 1)] := by kernel_rfl
@[go_sem] theorem sizeT_83 : sizeT Try.prog 83 = some 3 := by kernel_rfl
@[go_sem] theorem aggT_83 : aggT Try.prog 83 = some true := by kernel_rfl
@[go_sem] theorem bytesT_83 : bytesT Try.prog 83 = some 56 := by kernel_rfl
@[go_sem] theorem zeroT_83 : zeroT Try.prog 83 = some [AV.nils, AV.nils, AV.bool false] := by kernel_rfl
@[go_sem] theorem fieldT_83_0 : fieldT Try.prog 83 0 = some (0, 73) := by kernel_rfl
@[go_sem] theorem fieldT_83_1 : fieldT Try.prog 83 1 = some (1, 73) := by kernel_rfl
@[go_sem] theorem fieldT_83_2 : fieldT Try.prog 83 2 = some (2, 4) := by kernel_rfl
@[go_sem] theorem placesT_83 : placesT Try.prog 83 = some [(0, 1), (1, 1), (2, 1)] := by kernel_rfl
@[go_sem] theorem sizeT_84 : sizeT Try.prog 84 = some 1 := by kernel_rfl
@[go_sem] theorem aggT_84 : aggT Try.prog 84 = some false := by kernel_rfl
@[go_sem] theorem bytesT_84 : bytesT Try.prog 84 = some 24 := by kernel_rfl
@[go_sem] theorem zeroT_84 : zeroT Try.prog 84 = some [AV.nils] := by kernel_rfl
@[go_sem] theorem elemT_84 : elemT Try.prog 84 = some 46 := by kernel_rfl
@[go_sem] theorem isBytesT_84 : isBytesT Try.prog 84 = false := by kernel_rfl
@[go_sem] theorem sizeT_85 : sizeT Try.prog 85 = some 1 := by kernel_rfl
@[go_sem] theorem aggT_85 : aggT Try.prog 85 = some false := by kernel_rfl
@[go_sem] theorem bytesT_85 : bytesT Try.prog 85 = some 8 := by kernel_rfl
@[go_sem] theorem zeroT_85 : zeroT Try.prog 85 = some [AV.any] := by kernel_rfl
@[go_sem] theorem sizeT_86 : sizeT Try.prog 86 = some 1 := by kernel_rfl
@[go_sem] theorem aggT_86 : aggT Try.prog 86 = some false := by kernel_rfl
@[go_sem] theorem bytesT_86 : bytesT Try.prog 86 = some 8 := by kernel_rfl
@[go_sem] theorem zeroT_86 : zeroT Try.prog 86 = some [AV.any] := by kernel_rfl
@[go_sem] theorem sizeT_87 : sizeT Try.prog 87 = some 1 := by kernel_rfl
@[go_sem] theorem aggT_87 : aggT Try.prog 87 = some false := by kernel_rfl
@[go_sem] theorem bytesT_87 : bytesT Try.prog 87 = some 8 := by kernel_rfl
@[go_sem] theorem zeroT_87 : zeroT Try.prog 87 = some [AV.any] := by kernel_rfl
@[go_sem] theorem sizeT_88 : sizeT Try.prog 88 = some 1 := by kernel_rfl
@[go_sem] theorem aggT_88 : aggT Try.prog 88 = some false := by kernel_rfl
@[go_sem] theorem bytesT_88 : bytesT Try.prog 88 = some 24 := by kernel_rfl
@[go_sem] theorem zeroT_88 : zeroT Try.prog 88 = some [AV.nils] := by kernel_rfl
@[go_sem] theorem elemT_88 : elemT Try.prog 88 = some 94 := by kernel_rfl
@[go_sem] theorem isBytesT_88 : isBytesT Try.prog 88 = false := by kernel_rfl
@[go_sem] theorem sizeT_90 : sizeT Try.prog 90 = some 1 := by kernel_rfl
@[go_sem] theorem aggT_90 : aggT Try.prog 90 = some false := by kernel_rfl
@[go_sem] theorem bytesT_90 : bytesT Try.prog 90 = some 8 := by kernel_rfl
@[go_sem] theorem zeroT_90 : zeroT Try.prog 90 = some [AV.any] := by kernel_rfl
@[go_sem] theorem sizeT_91 : sizeT Try.prog 91 = some 1 := by kernel_rfl
@[go_sem] theorem aggT_91 : aggT Try.prog 91 = some false := by kernel_rfl
@[go_sem] theorem bytesT_91 : bytesT Try.prog 91 = some 8 := by kernel_rfl
@[go_sem] theorem zeroT_91 : zeroT Try.prog 91 = some [AV.any] := by kernel_rfl
@[go_sem] theorem sizeT_92 : sizeT Try.prog 92 = some 1 := by kernel_rfl
@[go_sem] theorem aggT_92 : aggT Try.prog 92 = some false := by kernel_rfl
@[go_sem] theorem bytesT_92 : bytesT Try.prog 92 = some 8 := by kernel_rfl
@[go_sem] theorem zeroT_92 : zeroT Try.prog 92 = some [AV.any] := by kernel_rfl
@[go_sem] theorem sizeT_93 : sizeT Try.prog 93 = some 2 := by kernel_rfl
@[go_sem] theorem aggT_93 : aggT Try.prog 93 = some true := by kernel_rfl
@[go_sem] theorem bytesT_93 : bytesT Try.prog 93 = some 16 := by kernel_rfl
@[go_sem] theorem zeroT_93 : zeroT Try.prog 93 = some [AV.int .i64 (0), AV.bool false] := by kernel_rfl
@[go_sem] theorem fieldT_93_0 : fieldT Try.prog 93 0 = some (0, 3) := by kernel_rfl
@[go_sem] theorem fieldT_93_1 : fieldT Try.prog 93 1 = some (1, 4) := by kernel_rfl
@[go_sem] theorem eqK_93 : eqK Try.prog 93 = some [.int, .bool] := by kernel_rfl
@[go_sem] theorem placesT_93 : placesT Try.prog 93 = some [(0, 1), (1, 1)] := by kernel_rfl
@[go_sem] theorem sizeT_94 : sizeT Try.prog 94 = some 2 := by kernel_rfl
@[go_sem] theorem aggT_94 : aggT Try.prog 94 = some true := by kernel_rfl
@[go_sem] theorem bytesT_94 : bytesT Try.prog 94 = some 16 := by kernel_rfl
@[go_sem] theorem zeroT_94 : zeroT Try.prog 94 = some [AV.int .i64 (0), AV.bool false] := by kernel_rfl
@[go_sem] theorem fieldT_94_0 : fieldT Try.prog 94 0 = some (0, 3) := by kernel_rfl
@[go_sem] theorem fieldT_94_1 : fieldT Try.prog 94 1 = some (1, 4) := by kernel_rfl
@[go_sem] theorem eqK_94 : eqK Try.prog 94 = some [.int, .bool] := by kernel_rfl
@[go_sem] theorem placesT_94 : placesT Try.prog 94 = some [(0, 1), (1, 1)] := by kernel_rfl
@[go_sem] theorem sizeT_95 : sizeT Try.prog 95 = some 1 := by kernel_rfl
@[go_sem] theorem aggT_95 : aggT Try.prog 95 = some false := by kernel_rfl
@[go_sem] theorem bytesT_95 : bytesT Try.prog 95 = some 8 := by kernel_rfl
@[go_sem] theorem zeroT_95 : zeroT Try.prog 95 = some [AV.any] := by kernel_rfl
@[go_sem] theorem sizeT_96 : sizeT Try.prog 96 = some 1 := by kernel_rfl
@[go_sem] theorem aggT_96 : aggT Try.prog 96 = some false := by kernel_rfl
@[go_sem] theorem bytesT_96 : bytesT Try.prog 96 = some 8 := by kernel_rfl
@[go_sem] theorem zeroT_96 : zeroT Try.prog 96 = some [AV.any] := by kernel_rfl
@[go_sem] theorem sizeT_98 : sizeT Try.prog 98 = some 1 := by kernel_rfl
@[go_sem] theorem aggT_98 : aggT Try.prog 98 = some false := by kernel_rfl
@[go_sem] theorem bytesT_98 : bytesT Try.prog 98 = some 8 := by kernel_rfl
@[go_sem] theorem zeroT_98 : zeroT Try.prog 98 = some [AV.any] := by kernel_rfl
@[go_sem] theorem sizeT_99 : sizeT Try.prog 99 = some 3 := by kernel_rfl
@[go_sem] theorem aggT_99 : aggT Try.prog 99 = some true := by kernel_rfl
@[go_sem] theorem bytesT_99 : bytesT Try.prog 99 = some 32 := by kernel_rfl
@[go_sem] theorem zeroT_99 : zeroT Try.prog 99 = some [AV.str ⟨#[]⟩, AV.int .i64 (0), AV.int .i64 (0)] := by kernel_rfl
@[go_sem] theorem fieldT_99_0 : fieldT Try.prog 99 0 = some (0, 9) := by kernel_rfl
@[go_sem] theorem fieldT_99_1 : fieldT Try.prog 99 1 = some (1, 3) := by kernel_rfl
@[go_sem] theorem fieldT_99_2 : fieldT Try.prog 99 2 = some (2, 3) := by kernel_rfl
@[go_sem] theorem eqK_99 : eqK Try.prog 99 = some [.str, .int, .int] := by kernel_rfl
@[go_sem] theorem placesT_99 : placesT Try.prog 99 = some [(0, 1), (1, 1), (2, 1)] := by kernel_rfl
@[go_sem] theorem sizeT_100 : sizeT Try.prog 100 = some 3 := by kernel_rfl
@[go_sem] theorem aggT_100 : aggT Try.prog 100 = some true := by kernel_rfl
@[go_sem] theorem bytesT_100 : bytesT Try.prog 100 = some 32 := by kernel_rfl
@[go_sem] theorem zeroT_100 : zeroT Try.prog 100 = some [AV.str ⟨#[]⟩, AV.int .i64 (0), AV.int .i64 (0)] := by kernel_rfl
@[go_sem] theorem fieldT_100_0 : fieldT Try.prog 100 0 = some (0, 9) := by kernel_rfl
@[go_sem] theorem fieldT_100_1 : fieldT Try.prog 100 1 = some (1, 3) := by kernel_rfl
@[go_sem] theorem fieldT_100_2 : fieldT Try.prog 100 2 = some (2, 3) := by kernel_rfl
@[go_sem] theorem eqK_100 : eqK Try.prog 100 = some [.str, .int, .int] := by kernel_rfl
@[go_sem] theorem placesT_100 : placesT Try.prog 100 = some [(0, 1), (1, 1), (2, 1)] := by kernel_rfl
@[go_sem] theorem sizeT_101 : sizeT Try.prog 101 = some 1 := by kernel_rfl
@[go_sem] theorem aggT_101 : aggT Try.prog 101 = some false := by kernel_rfl
@[go_sem] theorem bytesT_101 : bytesT Try.prog 101 = some 8 := by kernel_rfl
@[go_sem] theorem zeroT_101 : zeroT Try.prog 101 = some [AV.any] := by kernel_rfl
@[go_sem] theorem sizeT_102 : sizeT Try.prog 102 = some 1 := by kernel_rfl
@[go_sem] theorem aggT_102 : aggT Try.prog 102 = some false := by kernel_rfl
@[go_sem] theorem bytesT_102 : bytesT Try.prog 102 = some 8 := by kernel_rfl
@[go_sem] theorem zeroT_102 : zeroT Try.prog 102 = some [AV.any] := by kernel_rfl
@[go_sem] theorem sizeT_103 : sizeT Try.prog 103 = some 1 := by kernel_rfl
@[go_sem] theorem aggT_103 : aggT Try.prog 103 = some false := by kernel_rfl
@[go_sem] theorem bytesT_103 : bytesT Try.prog 103 = some 8 := by kernel_rfl
@[go_sem] theorem zeroT_103 : zeroT Try.prog 103 = some [AV.any] := by kernel_rfl
@[go_sem] theorem sizeT_104 : sizeT Try.prog 104 = some 1 := by kernel_rfl
@[go_sem] theorem aggT_104 : aggT Try.prog 104 = some false := by kernel_rfl
@[go_sem] theorem bytesT_104 : bytesT Try.prog 104 = some 8 := by kernel_rfl
@[go_sem] theorem zeroT_104 : zeroT Try.prog 104 = some [AV.any] := by kernel_rfl
@[go_sem] theorem sizeT_105 : sizeT Try.prog 105 = some 1 := by kernel_rfl
@[go_sem] theorem aggT_105 : aggT Try.prog 105 = some false := by kernel_rfl
@[go_sem] theorem bytesT_105 : bytesT Try.prog 105 = some 8 := by kernel_rfl
@[go_sem] theorem zeroT_105 : zeroT Try.prog 105 = some [AV.any] := by kernel_rfl
@[go_sem] theorem sizeT_106 : sizeT Try.prog 106 = some 1 := by kernel_rfl
@[go_sem] theorem aggT_106 : aggT Try.prog 106 = some false := by kernel_rfl
@[go_sem] theorem bytesT_106 : bytesT Try.prog 106 = some 8 := by kernel_rfl
@[go_sem] theorem zeroT_106 : zeroT Try.prog 106 = some [AV.any] := by kernel_rfl
@[go_sem] theorem sizeT_107 : sizeT Try.prog 107 = some 4 := by kernel_rfl
@[go_sem] theorem aggT_107 : aggT Try.prog 107 = some true := by kernel_rfl
@[go_sem] theorem bytesT_107 : bytesT Try.prog 107 = some 64 := by kernel_rfl
@[go_sem] theorem zeroT_107 : zeroT Try.prog 107 = some [AV.str ⟨#[]⟩, AV.str ⟨#[]⟩, AV.nils, AV.int .i64 (0)] := by kernel_rfl
@[go_sem] theorem fieldT_107_0 : fieldT Try.prog 107 0 = some (0, 9) := by kernel_rfl
@[go_sem] theorem fieldT_107_1 : fieldT Try.prog 107 1 = some (1, 9) := by kernel_rfl
@[go_sem] theorem fieldT_107_2 : fieldT Try.prog 107 2 = some (2, 60) := by kernel_rfl
@[go_sem] theorem fieldT_107_3 : fieldT Try.prog 107 3 = some (3, 3) := by kernel_rfl
@[go_sem] theorem placesT_107 : placesT Try.prog 107 = some [(0, 1), (1, 1), (2, 1), (3, 1)] := by kernel_rfl
@[go_sem] theorem sizeT_108 : sizeT Try.prog 108 = some 4 := by kernel_rfl
@[go_sem] theorem aggT_108 : aggT Try.prog 108 = some true := by kernel_rfl
@[go_sem] theorem bytesT_108 : bytesT Try.prog 108 = some 64 := by kernel_rfl
@[go_sem] theorem zeroT_108 : zeroT Try.prog 108 = some [AV.str ⟨#[]⟩, AV.str ⟨#[]⟩, AV.nils, AV.int .i64 (0)] := by kernel_rfl
@[go_sem] theorem fieldT_108_0 : fieldT Try.prog 108 0 = some (0, 9) := by kernel_rfl
@[go_sem] theorem fieldT_108_1 : fieldT Try.prog 108 1 = some (1, 9) := by kernel_rfl
@[go_sem] theorem fieldT_108_2 : fieldT Try.prog 108 2 = some (2, 60) := by kernel_rfl
@[go_sem] theorem fieldT_108_3 : fieldT Try.prog 108 3 = some (3, 3) := by kernel_rfl
@[go_sem] theorem placesT_108 : placesT Try.prog 108 = some [(0, 1), (1, 1), (2, 1), (3, 1)] := by kernel_rfl
@[go_sem] theorem sizeT_109 : sizeT Try.prog 109 = some 1 := by kernel_rfl
@[go_sem] theorem aggT_109 : aggT Try.prog 109 = some false := by kernel_rfl
@[go_sem] theorem bytesT_109 : bytesT Try.prog 109 = some 8 := by kernel_rfl
@[go_sem] theorem zeroT_109 : zeroT Try.prog 109 = some [AV.any] := by kernel_rfl
@[go_sem] theorem sizeT_110 : sizeT Try.prog 110 = some 1 := by kernel_rfl
@[go_sem] theorem aggT_110 : aggT Try.prog 110 = some false := by kernel_rfl
@[go_sem] theorem bytesT_110 : bytesT Try.prog 110 = some 24 := by kernel_rfl
@[go_sem] theorem zeroT_110 : zeroT Try.prog 110 = some [AV.nils] := by kernel_rfl
@[go_sem] theorem elemT_110 : elemT Try.prog 110 = some 31 := by kernel_rfl
@[go_sem] theorem isBytesT_110 : isBytesT Try.prog 110 = false := by kernel_rfl
@[go_sem] theorem sizeT_111 : sizeT Try.prog 111 = some 1 := by kernel_rfl
@[go_sem] theorem aggT_111 : aggT Try.prog 111 = some false := by kernel_rfl
@[go_sem] theorem bytesT_111 : bytesT Try.prog 111 = some 8 := by kernel_rfl
@[go_sem] theorem zeroT_111 : zeroT Try.prog 111 = some [AV.any] := by kernel_rfl
@[go_sem] theorem sizeT_112 : sizeT Try.prog 112 = some 1 := by kernel_rfl
@[go_sem] theorem aggT_112 : aggT Try.prog 112 = some false := by kernel_rfl
@[go_sem] theorem bytesT_112 : bytesT Try.prog 112 = some 8 := by kernel_rfl
@[go_sem] theorem zeroT_112 : zeroT Try.prog 112 = some [AV.any] := by kernel_rfl
@[go_sem] theorem sizeT_113 : sizeT Try.prog 113 = some 1 := by kernel_rfl
@[go_sem] theorem aggT_113 : aggT Try.prog 113 = some false := by kernel_rfl
@[go_sem] theorem bytesT_113 : bytesT Try.prog 113 = some 8 := by kernel_rfl
@[go_sem] theorem zeroT_113 : zeroT Try.prog 113 = some [AV.any] := by kernel_rfl
@[go_sem] theorem sizeT_114 : sizeT Try.prog 114 = some 1 := by kernel_rfl
@[go_sem] theorem aggT_114 : aggT Try.prog 114 = some false := by kernel_rfl
@[go_sem] theorem bytesT_114 : bytesT Try.prog 114 = some 8 := by kernel_rfl
@[go_sem] theorem zeroT_114 : zeroT Try.prog 114 = some [AV.any] := by kernel_rfl
@[go_sem] theorem sizeT_115 : sizeT Try.prog 115 = some 1 := by kernel_rfl
@[go_sem] theorem aggT_115 : aggT Try.prog 115 = some false := by kernel_rfl
@[go_sem] theorem bytesT_115 : bytesT Try.prog 115 = some 8 := by kernel_rfl
@[go_sem] theorem zeroT_115 : zeroT Try.prog 115 = some [AV.any] := by kernel_rfl
@[go_sem] theorem sizeT_116 : sizeT Try.prog 116 = some 1 := by kernel_rfl
@[go_sem] theorem aggT_116 : aggT Try.prog 116 = some false := by kernel_rfl
@[go_sem] theorem bytesT_116 : bytesT Try.prog 116 = some 8 := by kernel_rfl
@[go_sem] theorem zeroT_116 : zeroT Try.prog 116 = some [AV.any] := by kernel_rfl
@[go_sem] theorem sizeT_117 : sizeT Try.prog 117 = some 1 := by kernel_rfl
@[go_sem] theorem aggT_117 : aggT Try.prog 117 = some false := by kernel_rfl
@[go_sem] theorem bytesT_117 : bytesT Try.prog 117 = some 8 := by kernel_rfl
@[go_sem] theorem zeroT_117 : zeroT Try.prog 117 = some [AV.any] := by kernel_rfl
@[go_sem] theorem sizeT_118 : sizeT Try.prog 118 = some 1 := by kernel_rfl
@[go_sem] theorem aggT_118 : aggT Try.prog 118 = some false := by kernel_rfl
@[go_sem] theorem bytesT_118 : bytesT Try.prog 118 = some 8 := by kernel_rfl
@[go_sem] theorem zeroT_118 : zeroT Try.prog 118 = some [AV.any] := by kernel_rfl
@[go_sem] theorem sizeT_119 : sizeT Try.prog 119 = some 1 := by kernel_rfl
@[go_sem] theorem aggT_119 : aggT Try.prog 119 = some false := by kernel_rfl
@[go_sem] theorem bytesT_119 : bytesT Try.prog 119 = some 8 := by kernel_rfl
@[go_sem] theorem zeroT_119 : zeroT Try.prog 119 = some [AV.any] := by kernel_rfl
@[go_sem] theorem sizeT_120 : sizeT Try.prog 120 = some 1 := by kernel_rfl
@[go_sem] theorem aggT_120 : aggT Try.prog 120 = some false := by kernel_rfl
@[go_sem] theorem bytesT_120 : bytesT Try.prog 120 = some 8 := by kernel_rfl
@[go_sem] theorem zeroT_120 : zeroT Try.prog 120 = some [AV.any] := by kernel_rfl
@[go_sem] theorem sizeT_121 : sizeT Try.prog 121 = some 1 := by kernel_rfl
@[go_sem] theorem aggT_121 : aggT Try.prog 121 = some false := by kernel_rfl
@[go_sem] theorem bytesT_121 : bytesT Try.prog 121 = some 8 := by kernel_rfl
@[go_sem] theorem zeroT_121 : zeroT Try.prog 121 = some [AV.any] := by kernel_rfl
@[go_sem] theorem sizeT_122 : sizeT Try.prog 122 = some 1 := by kernel_rfl
@[go_sem] theorem aggT_122 : aggT Try.prog 122 = some false := by kernel_rfl
@[go_sem] theorem bytesT_122 : bytesT Try.prog 122 = some 8 := by kernel_rfl
@[go_sem] theorem zeroT_122 : zeroT Try.prog 122 = some [AV.any] := by kernel_rfl
@[go_sem] theorem sizeT_123 : sizeT Try.prog 123 = some 1 := by kernel_rfl
@[go_sem] theorem aggT_123 : aggT Try.prog 123 = some false := by kernel_rfl
@[go_sem] theorem bytesT_123 : bytesT Try.prog 123 = some 8 := by kernel_rfl
@[go_sem] theorem zeroT_123 : zeroT Try.prog 123 = some [AV.any] := by kernel_rfl
@[go_sem] theorem sizeT_124 : sizeT Try.prog 124 = some 1 := by kernel_rfl
@[go_sem] theorem aggT_124 : aggT Try.prog 124 = some false := by kernel_rfl
@[go_sem] theorem bytesT_124 : bytesT Try.prog 124 = some 8 := by kernel_rfl
@[go_sem] theorem zeroT_124 : zeroT Try.prog 124 = some [AV.any] := by kernel_rfl
@[go_sem] theorem sizeT_125 : sizeT Try.prog 125 = some 1 := by kernel_rfl
@[go_sem] theorem aggT_125 : aggT Try.prog 125 = some false := by kernel_rfl
@[go_sem] theorem bytesT_125 : bytesT Try.prog 125 = some 8 := by kernel_rfl
@[go_sem] theorem zeroT_125 : zeroT Try.prog 125 = some [AV.any] := by kernel_rfl
@[go_sem] theorem sizeT_126 : sizeT Try.prog 126 = some 1 := by kernel_rfl
@[go_sem] theorem aggT_126 : aggT Try.prog 126 = some false := by kernel_rfl
@[go_sem] theorem bytesT_126 : bytesT Try.prog 126 = some 8 := by kernel_rfl
@[go_sem] theorem zeroT_126 : zeroT Try.prog 126 = some [AV.any] := by kernel_rfl
@[go_sem] theorem sizeT_127 : sizeT Try.prog 127 = some 1 := by kernel_rfl
@[go_sem] theorem aggT_127 : aggT Try.prog 127 = some false := by kernel_rfl
@[go_sem] theorem bytesT_127 : bytesT Try.prog 127 = some 8 := by kernel_rfl
@[go_sem] theorem zeroT_127 : zeroT Try.prog 127 = some [AV.any] := by kernel_rfl
@[go_sem] theorem sizeT_128 : sizeT Try.prog 128 = some 1 := by kernel_rfl
@[go_sem] theorem aggT_128 : aggT Try.prog 128 = some false := by kernel_rfl
@[go_sem] theorem bytesT_128 : bytesT Try.prog 128 = some 8 := by kernel_rfl
@[go_sem] theorem zeroT_128 : zeroT Try.prog 128 = some [AV.int .u64 (0)] := by kernel_rfl
@[go_sem] theorem intT_128 : intT Try.prog 128 = some .u64 := by kernel_rfl
@[go_sem] theorem sizeT_129 : sizeT Try.prog 129 = some 1 := by kernel_rfl
@[go_sem] theorem aggT_129 : aggT Try.prog 129 = some false := by kernel_rfl
@[go_sem] theorem bytesT_129 : bytesT Try.prog 129 = some 8 := by kernel_rfl
@[go_sem] theorem zeroT_129 : zeroT Try.prog 129 = some [AV.any] := by kernel_rfl
@[go_sem] theorem sizeT_130 : sizeT Try.prog 130 = some 1 := by kernel_rfl
@[go_sem] theorem aggT_130 : aggT Try.prog 130 = some false := by kernel_rfl
@[go_sem] theorem bytesT_130 : bytesT Try.prog 130 = some 8 := by kernel_rfl
@[go_sem] theorem zeroT_130 : zeroT Try.prog 130 = some [AV.any] := by kernel_rfl
@[go_sem] theorem sizeT_131 : sizeT Try.prog 131 = some 1 := by kernel_rfl
@[go_sem] theorem aggT_131 : aggT Try.prog 131 = some false := by kernel_rfl
@[go_sem] theorem bytesT_131 : bytesT Try.prog 131 = some 8 := by kernel_rfl
@[go_sem] theorem zeroT_131 : zeroT Try.prog 131 = some [AV.any] := by kernel_rfl
@[go_sem] theorem sizeT_132 : sizeT Try.prog 132 = some 1 := by kernel_rfl
@[go_sem] theorem aggT_132 : aggT Try.prog 132 = some false := by kernel_rfl
@[go_sem] theorem bytesT_132 : bytesT Try.prog 132 = some 8 := by kernel_rfl
@[go_sem] theorem zeroT_132 : zeroT Try.prog 132 = some [AV.any] := by kernel_rfl
@[go_sem] theorem sizeT_133 : sizeT Try.prog 133 = some 1 := by kernel_rfl
@[go_sem] theorem aggT_133 : aggT Try.prog 133 = some false := by kernel_rfl
@[go_sem] theorem bytesT_133 : bytesT Try.prog 133 = some 8 := by kernel_rfl
@[go_sem] theorem zeroT_133 : zeroT Try.prog 133 = some [AV.any] := by kernel_rfl
@[go_sem] theorem sizeT_134 : sizeT Try.prog 134 = some 1 := by kernel_rfl
@[go_sem] theorem aggT_134 : aggT Try.prog 134 = some false := by kernel_rfl
@[go_sem] theorem bytesT_134 : bytesT Try.prog 134 = some 8 := by kernel_rfl
@[go_sem] theorem zeroT_134 : zeroT Try.prog 134 = some [AV.any] := by kernel_rfl
@[go_sem] theorem sizeT_135 : sizeT Try.prog 135 = some 1 := by kernel_rfl
@[go_sem] theorem aggT_135 : aggT Try.prog 135 = some false := by kernel_rfl
@[go_sem] theorem bytesT_135 : bytesT Try.prog 135 = some 8 := by kernel_rfl
@[go_sem] theorem zeroT_135 : zeroT Try.prog 135 = some [AV.any] := by kernel_rfl
@[go_sem] theorem sizeT_136 : sizeT Try.prog 136 = some 1 := by kernel_rfl
@[go_sem] theorem aggT_136 : aggT Try.prog 136 = some false := by kernel_rfl
@[go_sem] theorem bytesT_136 : bytesT Try.prog 136 = some 8 := by kernel_rfl
@[go_sem] theorem zeroT_136 : zeroT Try.prog 136 = some [AV.any] := by kernel_rfl
@[go_sem] theorem sizeT_137 : sizeT Try.prog 137 = some 1 := by kernel_rfl
@[go_sem] theorem aggT_137 : aggT Try.prog 137 = some false := by kernel_rfl
@[go_sem] theorem bytesT_137 : bytesT Try.prog 137 = some 8 := by kernel_rfl
@[go_sem] theorem zeroT_137 : zeroT Try.prog 137 = some [AV.any] := by kernel_rfl
@[go_sem] theorem sizeT_138 : sizeT Try.prog 138 = some 1 := by kernel_rfl
@[go_sem] theorem aggT_138 : aggT Try.prog 138 = some false := by kernel_rfl
@[go_sem] theorem bytesT_138 : bytesT Try.prog 138 = some 8 := by kernel_rfl
@[go_sem] theorem zeroT_138 : zeroT Try.prog 138 = some [AV.any] := by kernel_rfl
@[go_sem] theorem sizeT_139 : sizeT Try.prog 139 = some 1 := by kernel_rfl
@[go_sem] theorem aggT_139 : aggT Try.prog 139 = some false := by kernel_rfl
@[go_sem] theorem bytesT_139 : bytesT Try.prog 139 = some 24 := by kernel_rfl
@[go_sem] theorem zeroT_139 : zeroT Try.prog 139 = some [AV.nils] := by kernel_rfl
@[go_sem] theorem elemT_139 : elemT Try.prog 139 = some 29 := by kernel_rfl
@[go_sem] theorem isBytesT_139 : isBytesT Try.prog 139 = false := by kernel_rfl
@[go_sem] theorem sizeT_140 : sizeT Try.prog 140 = some 1 := by kernel_rfl
@[go_sem] theorem aggT_140 : aggT Try.prog 140 = some false := by kernel_rfl
@[go_sem] theorem bytesT_140 : bytesT Try.prog 140 = some 8 := by kernel_rfl
@[go_sem] theorem zeroT_140 : zeroT Try.prog 140 = some [AV.any] := by kernel_rfl
@[go_sem] theorem sizeT_141 : sizeT Try.prog 141 = some 1 := by kernel_rfl
@[go_sem] theorem aggT_141 : aggT Try.prog 141 = some false := by kernel_rfl
@[go_sem] theorem bytesT_141 : bytesT Try.prog 141 = some 8 := by kernel_rfl
@[go_sem] theorem zeroT_141 : zeroT Try.prog 141 = some [AV.any] := by kernel_rfl
@[go_sem] theorem sizeT_142 : sizeT Try.prog 142 = some 1 := by kernel_rfl
@[go_sem] theorem aggT_142 : aggT Try.prog 142 = some false := by kernel_rfl
@[go_sem] theorem bytesT_142 : bytesT Try.prog 142 = some 8 := by kernel_rfl
@[go_sem] theorem zeroT_142 : zeroT Try.prog 142 = some [AV.any] := by kernel_rfl
@[go_sem] theorem sizeT_143 : sizeT Try.prog 143 = some 1 := by kernel_rfl
@[go_sem] theorem aggT_143 : aggT Try.prog 143 = some false := by kernel_rfl
@[go_sem] theorem bytesT_143 : bytesT Try.prog 143 = some 8 := by kernel_rfl
@[go_sem] theorem zeroT_143 : zeroT Try.prog 143 = some [AV.any] := by kernel_rfl
@[go_sem] theorem sizeT_145 : sizeT Try.prog 145 = some 1 := by kernel_rfl
@[go_sem] theorem aggT_145 : aggT Try.prog 145 = some false := by kernel_rfl
@[go_sem] theorem bytesT_145 : bytesT Try.prog 145 = some 8 := by kernel_rfl
@[go_sem] theorem zeroT_145 : zeroT Try.prog 145 = some [AV.any] := by kernel_rfl
@[go_sem] theorem sizeT_146 : sizeT Try.prog 146 = some 1 := by kernel_rfl
@[go_sem] theorem aggT_146 : aggT Try.prog 146 = some false := by kernel_rfl
@[go_sem] theorem bytesT_146 : bytesT Try.prog 146 = some 8 := by kernel_rfl
@[go_sem] theorem zeroT_146 : zeroT Try.prog 146 = some [AV.any] := by kernel_rfl
@[go_sem] theorem sizeT_147 : sizeT Try.prog 147 = some 1 := by kernel_rfl
@[go_sem] theorem aggT_147 : aggT Try.prog 147 = some false := by kernel_rfl
@[go_sem] theorem bytesT_147 : bytesT Try.prog 147 = some 8 := by kernel_rfl
@[go_sem] theorem zeroT_147 : zeroT Try.prog 147 = some [AV.any] := by kernel_rfl
@[go_sem] theorem sizeT_148 : sizeT Try.prog 148 = some 1 := by kernel_rfl
@[go_sem] theorem aggT_148 : aggT Try.prog 148 = some false := by kernel_rfl
@[go_sem] theorem bytesT_148 : bytesT Try.prog 148 = some 8 := by kernel_rfl
@[go_sem] theorem zeroT_148 : zeroT Try.prog 148 = some [AV.any] := by kernel_rfl
@[go_sem] theorem sizeT_149 : sizeT Try.prog 149 = some 1 := by kernel_rfl
@[go_sem] theorem aggT_149 : aggT Try.prog 149 = some false := by kernel_rfl
@[go_sem] theorem bytesT_149 : bytesT Try.prog 149 = some 8 := by kernel_rfl
@[go_sem] theorem zeroT_149 : zeroT Try.prog 149 = some [AV.any] := by kernel_rfl
@[go_sem] theorem sizeT_150 : sizeT Try.prog 150 = some 1 := by kernel_rfl
@[go_sem] theorem aggT_150 : aggT Try.prog 150 = some false := by kernel_rfl
@[go_sem] theorem bytesT_150 : bytesT Try.prog 150 = some 8 := by kernel_rfl
@[go_sem] theorem zeroT_150 : zeroT Try.prog 150 = some [AV.any] := by kernel_rfl
@[go_sem] theorem sizeT_151 : sizeT Try.prog 151 = some 1 := by kernel_rfl
@[go_sem] theorem aggT_151 : aggT Try.prog 151 = some false := by kernel_rfl
@[go_sem] theorem bytesT_151 : bytesT Try.prog 151 = some 8 := by kernel_rfl
@[go_sem] theorem zeroT_151 : zeroT Try.prog 151 = some [AV.any] := by kernel_rfl
@[go_sem] theorem sizeT_152 : sizeT Try.prog 152 = some 1 := by kernel_rfl
@[go_sem] theorem aggT_152 : aggT Try.prog 152 = some false := by kernel_rfl
@[go_sem] theorem bytesT_152 : bytesT Try.prog 152 = some 8 := by kernel_rfl
@[go_sem] theorem zeroT_152 : zeroT Try.prog 152 = some [AV.any] := by kernel_rfl
@[go_sem] theorem sizeT_153 : sizeT Try.prog 153 = some 1 := by kernel_rfl
@[go_sem] theorem aggT_153 : aggT Try.prog 153 = some false := by kernel_rfl
@[go_sem] theorem bytesT_153 : bytesT Try.prog 153 = some 8 := by kernel_rfl
@[go_sem] theorem zeroT_153 : zeroT Try.prog 153 = some [AV.any] := by kernel_rfl
@[go_sem] theorem sizeT_154 : sizeT Try.prog 154 = some 1 := by kernel_rfl
@[go_sem] theorem aggT_154 : aggT Try.prog 154 = some false := by kernel_rfl
@[go_sem] theorem bytesT_154 : bytesT Try.prog 154 = some 8 := by kernel_rfl
@[go_sem] theorem zeroT_154 : zeroT Try.prog 154 = some [AV.any] := by kernel_rfl
@[go_sem] theorem sizeT_155 : sizeT Try.prog 155 = some 1 := by kernel_rfl
@[go_sem] theorem aggT_155 : aggT Try.prog 155 = some false := by kernel_rfl
@[go_sem] theorem bytesT_155 : bytesT Try.prog 155 = some 8 := by kernel_rfl
@[go_sem] theorem zeroT_155 : zeroT Try.prog 155 = some [AV.any] := by kernel_rfl
@[go_sem] theorem sizeT_156 : sizeT Try.prog 156 = some 1 := by kernel_rfl
@[go_sem] theorem aggT_156 : aggT Try.prog 156 = some false := by kernel_rfl
@[go_sem] theorem bytesT_156 : bytesT Try.prog 156 = some 8 := by kernel_rfl
@[go_sem] theorem zeroT_156 : zeroT Try.prog 156 = some [AV.any] := by kernel_rfl
@[go_sem] theorem sizeT_157 : sizeT Try.prog 157 = some 1 := by kernel_rfl
@[go_sem] theorem aggT_157 : aggT Try.prog 157 = some false := by kernel_rfl
@[go_sem] theorem bytesT_157 : bytesT Try.prog 157 = some 24 := by kernel_rfl
@[go_sem] theorem zeroT_157 : zeroT Try.prog 157 = some [AV.nils] := by kernel_rfl
@[go_sem] theorem elemT_157 : elemT Try.prog 157 = some 161 := by kernel_rfl
@[go_sem] theorem isBytesT_157 : isBytesT Try.prog 157 = false := by kernel_rfl
@[go_sem] theorem sizeT_158 : sizeT Try.prog 158 = some 1 := by kernel_rfl
@[go_sem] theorem aggT_158 : aggT Try.prog 158 = some false := by kernel_rfl
@[go_sem] theorem bytesT_158 : bytesT Try.prog 158 = some 8 := by kernel_rfl
@[go_sem] theorem zeroT_158 : zeroT Try.prog 158 = some [AV.any] := by kernel_rfl
@[go_sem] theorem sizeT_159 : sizeT Try.prog 159 = some 1 := by kernel_rfl
@[go_sem] theorem aggT_159 : aggT Try.prog 159 = some false := by kernel_rfl
@[go_sem] theorem bytesT_159 : bytesT Try.prog 159 = some 8 := by kernel_rfl
@[go_sem] theorem zeroT_159 : zeroT Try.prog 159 = some [AV.any] := by kernel_rfl
@[go_sem] theorem sizeT_160 : sizeT Try.prog 160 = some 2 := by kernel_rfl
@[go_sem] theorem aggT_160 : aggT Try.prog 160 = some true := by kernel_rfl
@[go_sem] theorem bytesT_160 : bytesT Try.prog 160 = some 32 := by kernel_rfl
@[go_sem] theorem zeroT_160 : zeroT Try.prog 160 = some [AV.str ⟨#[]⟩, AV.str ⟨#[]⟩] := by kernel_rfl
@[go_sem] theorem fieldT_160_0 : fieldT Try.prog 160 0 = some (0, 9) := by kernel_rfl
@[go_sem] theorem fieldT_160_1 : fieldT Try.prog 160 1 = some (1, 9) := by kernel_rfl
@[go_sem] theorem eqK_160 : eqK Try.prog 160 = some [.str, .str] := by kernel_rfl
@[go_sem] theorem placesT_160 : placesT Try.prog 160 = some [(0, 1), (1, 1)] := by kernel_rfl
@[go_sem] theorem sizeT_161 : sizeT Try.prog 161 = some 2 := by kernel_rfl
@[go_sem] theorem aggT_161 : aggT Try.prog 161 = some true := by kernel_rfl
@[go_sem] theorem bytesT_161 : bytesT Try.prog 161 = some 32 := by kernel_rfl
@[go_sem] theorem zeroT_161 : zeroT Try.prog 161 = some [AV.str ⟨#[]⟩, AV.str ⟨#[]⟩] := by kernel_rfl
@[go_sem] theorem fieldT_161_0 : fieldT Try.prog 161 0 = some (0, 9) := by kernel_rfl
@[go_sem] theorem fieldT_161_1 : fieldT Try.prog 161 1 = some (1, 9) := by kernel_rfl
@[go_sem] theorem eqK_161 : eqK Try.prog 161 = some [.str, .str] := by kernel_rfl
@[go_sem] theorem placesT_161 : placesT Try.prog 161 = some [(0, 1), (1, 1)] := by kernel_rfl
@[go_sem] theorem sizeT_162 : sizeT Try.prog 162 = some 1 := by kernel_rfl
@[go_sem] theorem aggT_162 : aggT Try.prog 162 = some false := by kernel_rfl
@[go_sem] theorem bytesT_162 : bytesT Try.prog 162 = some 8 := by kernel_rfl
@[go_sem] theorem zeroT_162 : zeroT Try.prog 162 = some [AV.any] := by kernel_rfl
@[go_sem] theorem sizeT_163 : sizeT Try.prog 163 = some 1 := by kernel_rfl
@[go_sem] theorem aggT_163 : aggT Try.prog 163 = some false := by kernel_rfl
@[go_sem] theorem bytesT_163 : bytesT Try.prog 163 = some 8 := by kernel_rfl
@[go_sem] theorem zeroT_163 : zeroT Try.prog 163 = some [AV.any] := by kernel_rfl
@[go_sem] theorem sizeT_164 : sizeT Try.prog 164 = some 1 := by kernel_rfl
@[go_sem] theorem aggT_164 : aggT Try.prog 164 = some false := by kernel_rfl
@[go_sem] theorem bytesT_164 : bytesT Try.prog 164 = some 8 := by kernel_rfl
@[go_sem] theorem zeroT_164 : zeroT Try.prog 164 = some [AV.any] := by kernel_rfl
@[go_sem] theorem sizeT_165 : sizeT Try.prog 165 = some 4 := by kernel_rfl
@[go_sem] theorem aggT_165 : aggT Try.prog 165 = some true := by kernel_rfl
@[go_sem] theorem bytesT_165 : bytesT Try.prog 165 = some 40 := by kernel_rfl
@[go_sem] theorem fieldT_165_0 : fieldT Try.prog 165 0 = some (0, 17) := by kernel_rfl
@[go_sem] theorem fieldT_165_1 : fieldT Try.prog 165 1 = some (1, 17) := by kernel_rfl
@[go_sem] theorem fieldT_165_2 : fieldT Try.prog 165 2 = some (2, 17) := by kernel_rfl
@[go_sem] theorem fieldT_165_3 : fieldT Try.prog 165 3 = some (3, 9) := by kernel_rfl
@[go_sem] theorem placesT_165 : placesT Try.prog 165 = some [(0, 1), (1, 1), (2, 1), (3, 1)] := by kernel_rfl
@[go_sem] theorem sizeT_166 : sizeT Try.prog 166 = some 4 := by kernel_rfl
@[go_sem] theorem aggT_166 : aggT Try.prog 166 = some true := by kernel_rfl
@[go_sem] theorem bytesT_166 : bytesT Try.prog 166 = some 40 := by kernel_rfl
@[go_sem] theorem fieldT_166_0 : fieldT Try.prog 166 0 = some (0, 17) := by kernel_rfl
@[go_sem] theorem fieldT_166_1 : fieldT Try.prog 166 1 = some (1, 17) := by kernel_rfl
@[go_sem] theorem fieldT_166_2 : fieldT Try.prog 166 2 = some (2, 17) := by kernel_rfl
@[go_sem] theorem fieldT_166_3 : fieldT Try.prog 166 3 = some (3, 9) := by kernel_rfl
@[go_sem] theorem placesT_166 : placesT Try.prog 166 = some [(0, 1), (1, 1), (2, 1), (3, 1)] := by kernel_rfl
@[go_sem] theorem sizeT_168 : sizeT Try.prog 168 = some 0 := by kernel_rfl
@[go_sem] theorem aggT_168 : aggT Try.prog 168 = some true := by kernel_rfl
@[go_sem] theorem bytesT_168 : bytesT Try.prog 168 = some 0 := by kernel_rfl
@[go_sem] theorem zeroT_168 : zeroT Try.prog 168 = some [] := by kernel_rfl
@[go_sem] theorem fieldT_168_0 : fieldT Try.prog 168 0 = some (0, 167) := by kernel_rfl
@[go_sem] theorem placesT_168 : placesT Try.prog 168 = some [(0, 0)] := by kernel_rfl
@[go_sem] theorem sizeT_169 : sizeT Try.prog 169 = some 0 := by kernel_rfl
@[go_sem] theorem aggT_169 : aggT Try.prog 169 = some true := by kernel_rfl
@[go_sem] theorem bytesT_169 : bytesT Try.prog 169 = some 0 := by kernel_rfl
@[go_sem] theorem zeroT_169 : zeroT Try.prog 169 = some [] := by kernel_rfl
@[go_sem] theorem fieldT_169_0 : fieldT Try.prog 169 0 = some (0, 167) := by kernel_rfl
@[go_sem] theorem placesT_169 : placesT Try.prog 169 = some [(0, 0)] := by kernel_rfl
@[go_sem] theorem sizeT_170 : sizeT Try.prog 170 = some 1 := by kernel_rfl
@[go_sem] theorem aggT_170 : aggT Try.prog 170 = some false := by kernel_rfl
@[go_sem] theorem bytesT_170 : bytesT Try.prog 170 = some 8 := by kernel_rfl
@[go_sem] theorem zeroT_170 : zeroT Try.prog 170 = some [AV.any] := by kernel_rfl
@[go_sem] theorem sizeT_171 : sizeT Try.prog 171 = some 1 := by kernel_rfl
@[go_sem] theorem aggT_171 : aggT Try.prog 171 = some false := by kernel_rfl
@[go_sem] theorem bytesT_171 : bytesT Try.prog 171 = some 4 := by kernel_rfl
@[go_sem] theorem zeroT_171 : zeroT Try.prog 171 = some [AV.int .u32 (0)] := by kernel_rfl
@[go_sem] theorem intT_171 : intT Try.prog 171 = some .u32 := by kernel_rfl
@[go_sem] theorem sizeT_172 : sizeT Try.prog 172 = some 1 := by kernel_rfl
@[go_sem] theorem aggT_172 : aggT Try.prog 172 = some false := by kernel_rfl
@[go_sem] theorem bytesT_172 : bytesT Try.prog 172 = some 1 := by kernel_rfl
@[go_sem] theorem zeroT_172 : zeroT Try.prog 172 = some [AV.int .u8 (0)] := by kernel_rfl
@[go_sem] theorem intT_172 : intT Try.prog 172 = some .u8 := by kernel_rfl
@[go_sem] theorem sizeT_173 : sizeT Try.prog 173 = some 1 := by kernel_rfl
@[go_sem] theorem aggT_173 : aggT Try.prog 173 = some false := by kernel_rfl
@[go_sem] theorem bytesT_173 : bytesT Try.prog 173 = some 1 := by kernel_rfl
@[go_sem] theorem zeroT_173 : zeroT Try.prog 173 = some [AV.int .u8 (0)] := by kernel_rfl
@[go_sem] theorem intT_173 : intT Try.prog 173 = some .u8 := by kernel_rfl
@[go_sem] theorem sizeT_174 : sizeT Try.prog 174 = some 1 := by kernel_rfl
@[go_sem] theorem aggT_174 : aggT Try.prog 174 = some false := by kernel_rfl
@[go_sem] theorem bytesT_174 : bytesT Try.prog 174 = some 8 := by kernel_rfl
@[go_sem] theorem zeroT_174 : zeroT Try.prog 174 = some [AV.any] := by kernel_rfl
@[go_sem] theorem sizeT_175 : sizeT Try.prog 175 = some 1 := by kernel_rfl
@[go_sem] theorem aggT_175 : aggT Try.prog 175 = some false := by kernel_rfl
@[go_sem] theorem bytesT_175 : bytesT Try.prog 175 = some 8 := by kernel_rfl
@[go_sem] theorem zeroT_175 : zeroT Try.prog 175 = some [AV.any] := by kernel_rfl
@[go_sem] theorem sizeT_176 : sizeT Try.prog 176 = some 1 := by kernel_rfl
@[go_sem] theorem aggT_176 : aggT Try.prog 176 = some false := by kernel_rfl
@[go_sem] theorem bytesT_176 : bytesT Try.prog 176 = some 4 := by kernel_rfl
@[go_sem] theorem zeroT_176 : zeroT Try.prog 176 = some [AV.int .i32 (0)] := by kernel_rfl
@[go_sem] theorem intT_176 : intT Try.prog 176 = some .i32 := by kernel_rfl
@[go_sem] theorem sizeT_177 : sizeT Try.prog 177 = some 1 := by kernel_rfl
@[go_sem] theorem aggT_177 : aggT Try.prog 177 = some false := by kernel_rfl
@[go_sem] theorem bytesT_177 : bytesT Try.prog 177 = some 4 := by kernel_rfl
@[go_sem] theorem zeroT_177 : zeroT Try.prog 177 = some [AV.int .i32 (0)] := by kernel_rfl
@[go_sem] theorem intT_177 : intT Try.prog 177 = some .i32 := by kernel_rfl
@[go_sem] theorem sizeT_178 : sizeT Try.prog 178 = some 11 := by kernel_rfl
@[go_sem] theorem aggT_178 : aggT Try.prog 178 = some true := by kernel_rfl
@[go_sem] theorem bytesT_178 : bytesT Try.prog 178 = some 48 := by kernel_rfl
@[go_sem] theorem fieldT_178_0 : fieldT Try.prog 178 0 = some (0, 12) := by kernel_rfl
@[go_sem] theorem fieldT_178_1 : fieldT Try.prog 178 1 = some (1, 12) := by kernel_rfl
@[go_sem] theorem fieldT_178_2 : fieldT Try.prog 178 2 = some (2, 171) := by kernel_rfl
@[go_sem] theorem fieldT_178_3 : fieldT Try.prog 178 3 = some (3, 172) := by kernel_rfl
@[go_sem] theorem fieldT_178_4 : fieldT Try.prog 178 4 = some (4, 5) := by kernel_rfl
@[go_sem] theorem fieldT_178_5 : fieldT Try.prog 178 5 = some (5, 5) := by kernel_rfl
@[go_sem] theorem fieldT_178_6 : fieldT Try.prog 178 6 = some (6, 173) := by kernel_rfl
@[go_sem] theorem fieldT_178_7 : fieldT Try.prog 178 7 = some (7, 174) := by kernel_rfl
@[go_sem] theorem fieldT_178_8 : fieldT Try.prog 178 8 = some (8, 175) := by kernel_rfl
@[go_sem] theorem fieldT_178_9 : fieldT Try.prog 178 9 = some (9, 176) := by kernel_rfl
@[go_sem] theorem fieldT_178_10 : fieldT Try.prog 178 10 = some (10, 177) := by kernel_rfl
@[go_sem] theorem placesT_178 : placesT Try.prog 178 = some [(0, 1), (1, 1), (2, 1), (3, 1), (4, 1), (5, 1), (6, 1), (7, 1), (8, 1), (9, 1), (10, 1)] := by kernel_rfl
@[go_sem] theorem sizeT_179 : sizeT Try.prog 179 = some 11 := by kernel_rfl
@[go_sem] theorem aggT_179 : aggT Try.prog 179 = some true := by kernel_rfl
@[go_sem] theorem bytesT_179 : bytesT Try.prog 179 = some 48 := by kernel_rfl
@[go_sem] theorem fieldT_179_0 : fieldT Try.prog 179 0 = some (0, 12) := by kernel_rfl
@[go_sem] theorem fieldT_179_1 : fieldT Try.prog 179 1 = some (1, 12) := by kernel_rfl
@[go_sem] theorem fieldT_179_2 : fieldT Try.prog 179 2 = some (2, 171) := by kernel_rfl
@[go_sem] theorem fieldT_179_3 : fieldT Try.prog 179 3 = some (3, 172) := by kernel_rfl
@[go_sem] theorem fieldT_179_4 : fieldT Try.prog 179 4 = some (4, 5) := by kernel_rfl
@[go_sem] theorem fieldT_179_5 : fieldT Try.prog 179 5 = some (5, 5) := by kernel_rfl
@[go_sem] theorem fieldT_179_6 : fieldT Try.prog 179 6 = some (6, 173) := by kernel_rfl
@[go_sem] theorem fieldT_179_7 : fieldT Try.prog 179 7 = some (7, 174) := by kernel_rfl
@[go_sem] theorem fieldT_179_8 : fieldT Try.prog 179 8 = some (8, 175) := by kernel_rfl
@[go_sem] theorem fieldT_179_9 : fieldT Try.prog 179 9 = some (9, 176) := by kernel_rfl
@[go_sem] theorem fieldT_179_10 : fieldT Try.prog 179 10 = some (10, 177) := by kernel_rfl
@[go_sem] theorem placesT_179 : placesT Try.prog 179 = some [(0, 1), (1, 1), (2, 1), (3, 1), (4, 1), (5, 1), (6, 1), (7, 1), (8, 1), (9, 1), (10, 1)] := by kernel_rfl

end Go.Proofs.Ytdmcmfdmnlckdaa.Ty
