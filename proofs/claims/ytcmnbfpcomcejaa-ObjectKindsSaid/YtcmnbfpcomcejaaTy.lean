/- What the types of this seat are, for the abstract machine: printed by a program of this work, each row reckoned by the kernel. -/
import Derived.Test.YtcmnbfpcomcejaaAb15
import Derived.Test.YtcmnbfpcomcejaaProg
namespace Go.Proofs.Ytcmnbfpcomcejaa.Ty
open Go Go.Proofs Go.Proofs.Ytcmnbfpcomcejaa.Ab

@[go_sem] theorem sizeT_1 : sizeT Try.prog 1 = some 1 := by kernel_rfl
@[go_sem] theorem aggT_1 : aggT Try.prog 1 = some false := by kernel_rfl
@[go_sem] theorem bytesT_1 : bytesT Try.prog 1 = some 8 := by kernel_rfl
@[go_sem] theorem zeroT_1 : zeroT Try.prog 1 = some [AV.any] := by kernel_rfl
@[go_sem] theorem sizeT_2 : sizeT Try.prog 2 = some 1 := by kernel_rfl
@[go_sem] theorem aggT_2 : aggT Try.prog 2 = some false := by kernel_rfl
@[go_sem] theorem bytesT_2 : bytesT Try.prog 2 = some 8 := by kernel_rfl
@[go_sem] theorem zeroT_2 : zeroT Try.prog 2 = some [AV.int .i64 (0)] := by kernel_rfl
@[go_sem] theorem intT_2 : intT Try.prog 2 = some .i64 := by kernel_rfl
@[go_sem] theorem sizeT_3 : sizeT Try.prog 3 = some 1 := by kernel_rfl
@[go_sem] theorem aggT_3 : aggT Try.prog 3 = some false := by kernel_rfl
@[go_sem] theorem bytesT_3 : bytesT Try.prog 3 = some 8 := by kernel_rfl
@[go_sem] theorem zeroT_3 : zeroT Try.prog 3 = some [AV.int .i64 (0)] := by kernel_rfl
@[go_sem] theorem intT_3 : intT Try.prog 3 = some .i64 := by kernel_rfl
@[go_sem] theorem sizeT_4 : sizeT Try.prog 4 = some 1 := by kernel_rfl
@[go_sem] theorem aggT_4 : aggT Try.prog 4 = some false := by kernel_rfl
@[go_sem] theorem bytesT_4 : bytesT Try.prog 4 = some 1 := by kernel_rfl
@[go_sem] theorem zeroT_4 : zeroT Try.prog 4 = some [AV.bool false] := by kernel_rfl
@[go_sem] theorem isBoolT_4 : isBoolT Try.prog 4 = true := by kernel_rfl
@[go_sem] theorem sizeT_5 : sizeT Try.prog 5 = some 1 := by kernel_rfl
@[go_sem] theorem aggT_5 : aggT Try.prog 5 = some false := by kernel_rfl
@[go_sem] theorem bytesT_5 : bytesT Try.prog 5 = some 1 := by kernel_rfl
@[go_sem] theorem zeroT_5 : zeroT Try.prog 5 = some [AV.int .u8 (0)] := by kernel_rfl
@[go_sem] theorem intT_5 : intT Try.prog 5 = some .u8 := by kernel_rfl
@[go_sem] theorem sizeT_6 : sizeT Try.prog 6 = some 1 := by kernel_rfl
@[go_sem] theorem aggT_6 : aggT Try.prog 6 = some false := by kernel_rfl
@[go_sem] theorem bytesT_6 : bytesT Try.prog 6 = some 1 := by kernel_rfl
@[go_sem] theorem zeroT_6 : zeroT Try.prog 6 = some [AV.int .u8 (0)] := by kernel_rfl
@[go_sem] theorem intT_6 : intT Try.prog 6 = some .u8 := by kernel_rfl
@[go_sem] theorem sizeT_7 : sizeT Try.prog 7 = some 4 := by kernel_rfl
@[go_sem] theorem aggT_7 : aggT Try.prog 7 = some true := by kernel_rfl
@[go_sem] theorem bytesT_7 : bytesT Try.prog 7 = some 24 := by kernel_rfl
@[go_sem] theorem zeroT_7 : zeroT Try.prog 7 = some [AV.int .i64 (0), AV.int .i64 (0), AV.bool false, AV.int .u8 (0)] := by kernel_rfl
@[go_sem] theorem fieldT_7_0 : fieldT Try.prog 7 0 = some (0, 2) := by kernel_rfl
@[go_sem] theorem fieldT_7_1 : fieldT Try.prog 7 1 = some (1, 3) := by kernel_rfl
@[go_sem] theorem fieldT_7_2 : fieldT Try.prog 7 2 = some (2, 4) := by kernel_rfl
@[go_sem] theorem fieldT_7_3 : fieldT Try.prog 7 3 = some (3, 6) := by kernel_rfl
@[go_sem] theorem eqK_7 : eqK Try.prog 7 = some [.int, .int, .bool, .int] := by kernel_rfl
@[go_sem] theorem placesT_7 : placesT Try.prog 7 = some [(0, 1), (1, 1), (2, 1), (3, 1)] := by kernel_rfl
@[go_sem] theorem sizeT_8 : sizeT Try.prog 8 = some 4 := by kernel_rfl
@[go_sem] theorem aggT_8 : aggT Try.prog 8 = some true := by kernel_rfl
@[go_sem] theorem bytesT_8 : bytesT Try.prog 8 = some 24 := by kernel_rfl
@[go_sem] theorem zeroT_8 : zeroT Try.prog 8 = some [AV.int .i64 (0), AV.int .i64 (0), AV.bool false, AV.int .u8 (0)] := by kernel_rfl
@[go_sem] theorem fieldT_8_0 : fieldT Try.prog 8 0 = some (0, 2) := by kernel_rfl
@[go_sem] theorem fieldT_8_1 : fieldT Try.prog 8 1 = some (1, 3) := by kernel_rfl
@[go_sem] theorem fieldT_8_2 : fieldT Try.prog 8 2 = some (2, 4) := by kernel_rfl
@[go_sem] theorem fieldT_8_3 : fieldT Try.prog 8 3 = some (3, 6) := by kernel_rfl
@[go_sem] theorem eqK_8 : eqK Try.prog 8 = some [.int, .int, .bool, .int] := by kernel_rfl
@[go_sem] theorem placesT_8 : placesT Try.prog 8 = some [(0, 1), (1, 1), (2, 1), (3, 1)] := by kernel_rfl
@[go_sem] theorem sizeT_9 : sizeT Try.prog 9 = some 1 := by kernel_rfl
@[go_sem] theorem aggT_9 : aggT Try.prog 9 = some false := by kernel_rfl
@[go_sem] theorem bytesT_9 : bytesT Try.prog 9 = some 16 := by kernel_rfl
@[go_sem] theorem zeroT_9 : zeroT Try.prog 9 = some [AV.str ⟨#[]⟩] := by kernel_rfl
@[go_sem] theorem isStrT_9 : isStrT Try.prog 9 = true := by kernel_rfl
@[go_sem] theorem isBytesT_9 : isBytesT Try.prog 9 = false := by kernel_rfl
@[go_sem] theorem sizeT_10 : sizeT Try.prog 10 = some 1 := by kernel_rfl
@[go_sem] theorem aggT_10 : aggT Try.prog 10 = some false := by kernel_rfl
@[go_sem] theorem bytesT_10 : bytesT Try.prog 10 = some 16 := by kernel_rfl
@[go_sem] theorem zeroT_10 : zeroT Try.prog 10 = some [AV.str ⟨#[]⟩] := by kernel_rfl
@[go_sem] theorem isStrT_10 : isStrT Try.prog 10 = true := by kernel_rfl
@[go_sem] theorem isBytesT_10 : isBytesT Try.prog 10 = false := by kernel_rfl
@[go_sem] theorem sizeT_11 : sizeT Try.prog 11 = some 1 := by kernel_rfl
@[go_sem] theorem aggT_11 : aggT Try.prog 11 = some false := by kernel_rfl
@[go_sem] theorem bytesT_11 : bytesT Try.prog 11 = some 16 := by kernel_rfl
@[go_sem] theorem zeroT_11 : zeroT Try.prog 11 = some [AV.str ⟨#[]⟩] := by kernel_rfl
@[go_sem] theorem isStrT_11 : isStrT Try.prog 11 = true := by kernel_rfl
@[go_sem] theorem isBytesT_11 : isBytesT Try.prog 11 = false := by kernel_rfl
@[go_sem] theorem sizeT_12 : sizeT Try.prog 12 = some 1 := by kernel_rfl
@[go_sem] theorem aggT_12 : aggT Try.prog 12 = some false := by kernel_rfl
@[go_sem] theorem bytesT_12 : bytesT Try.prog 12 = some 8 := by kernel_rfl
@[go_sem] theorem zeroT_12 : zeroT Try.prog 12 = some [AV.int .u64 (0)] := by kernel_rfl
@[go_sem] theorem intT_12 : intT Try.prog 12 = some .u64 := by kernel_rfl
@[go_sem] theorem sizeT_13 : sizeT Try.prog 13 = some 2 := by kernel_rfl
@[go_sem] theorem aggT_13 : aggT Try.prog 13 = some true := by kernel_rfl
@[go_sem] theorem bytesT_13 : bytesT Try.prog 13 = some 24 := by kernel_rfl
@[go_sem] theorem zeroT_13 : zeroT Try.prog 13 = some [AV.str ⟨#[]⟩, AV.int .u64 (0)] := by kernel_rfl
@[go_sem] theorem fieldT_13_0 : fieldT Try.prog 13 0 = some (0, 9) := by kernel_rfl
@[go_sem] theorem fieldT_13_1 : fieldT Try.prog 13 1 = some (1, 12) := by kernel_rfl
@[go_sem] theorem placesT_13 : placesT Try.prog 13 = some [(0, 1), (1, 1)] := by kernel_rfl
@[go_sem] theorem sizeT_14 : sizeT Try.prog 14 = some 2 := by kernel_rfl
@[go_sem] theorem aggT_14 : aggT Try.prog 14 = some true := by kernel_rfl
@[go_sem] theorem bytesT_14 : bytesT Try.prog 14 = some 24 := by kernel_rfl
@[go_sem] theorem zeroT_14 : zeroT Try.prog 14 = some [AV.str ⟨#[]⟩, AV.int .u64 (0)] := by kernel_rfl
@[go_sem] theorem fieldT_14_0 : fieldT Try.prog 14 0 = some (0, 9) := by kernel_rfl
@[go_sem] theorem fieldT_14_1 : fieldT Try.prog 14 1 = some (1, 12) := by kernel_rfl
@[go_sem] theorem placesT_14 : placesT Try.prog 14 = some [(0, 1), (1, 1)] := by kernel_rfl
@[go_sem] theorem sizeT_15 : sizeT Try.prog 15 = some 1 := by kernel_rfl
@[go_sem] theorem aggT_15 : aggT Try.prog 15 = some false := by kernel_rfl
@[go_sem] theorem bytesT_15 : bytesT Try.prog 15 = some 8 := by kernel_rfl
@[go_sem] theorem zeroT_15 : zeroT Try.prog 15 = some [AV.any] := by kernel_rfl
@[go_sem] theorem sizeT_16 : sizeT Try.prog 16 = some 1 := by kernel_rfl
@[go_sem] theorem aggT_16 : aggT Try.prog 16 = some false := by kernel_rfl
@[go_sem] theorem bytesT_16 : bytesT Try.prog 16 = some 8 := by kernel_rfl
@[go_sem] theorem zeroT_16 : zeroT Try.prog 16 = some [AV.any] := by kernel_rfl
@[go_sem] theorem sizeT_17 : sizeT Try.prog 17 = some 1 := by kernel_rfl
@[go_sem] theorem aggT_17 : aggT Try.prog 17 = some false := by kernel_rfl
@[go_sem] theorem bytesT_17 : bytesT Try.prog 17 = some 8 := by kernel_rfl
@[go_sem] theorem zeroT_17 : zeroT Try.prog 17 = some [AV.any] := by kernel_rfl
@[go_sem] theorem sizeT_18 : sizeT Try.prog 18 = some 1 := by kernel_rfl
@[go_sem] theorem aggT_18 : aggT Try.prog 18 = some true := by kernel_rfl
@[go_sem] theorem bytesT_18 : bytesT Try.prog 18 = some 8 := by kernel_rfl
@[go_sem] theorem zeroT_18 : zeroT Try.prog 18 = some [AV.any] := by kernel_rfl
@[go_sem] theorem fieldT_18_0 : fieldT Try.prog 18 0 = some (0, 17) := by kernel_rfl
@[go_sem] theorem placesT_18 : placesT Try.prog 18 = some [(0, 1)] := by kernel_rfl
@[go_sem] theorem sizeT_19 : sizeT Try.prog 19 = some 1 := by kernel_rfl
@[go_sem] theorem aggT_19 : aggT Try.prog 19 = some true := by kernel_rfl
@[go_sem] theorem bytesT_19 : bytesT Try.prog 19 = some 8 := by kernel_rfl
@[go_sem] theorem zeroT_19 : zeroT Try.prog 19 = some [AV.any] := by kernel_rfl
@[go_sem] theorem fieldT_19_0 : fieldT Try.prog 19 0 = some (0, 17) := by kernel_rfl
@[go_sem] theorem placesT_19 : placesT Try.prog 19 = some [(0, 1)] := by kernel_rfl
@[go_sem] theorem sizeT_21 : sizeT Try.prog 21 = some 1 := by kernel_rfl
@[go_sem] theorem aggT_21 : aggT Try.prog 21 = some false := by kernel_rfl
@[go_sem] theorem bytesT_21 : bytesT Try.prog 21 = some 4 := by kernel_rfl
@[go_sem] theorem zeroT_21 : zeroT Try.prog 21 = some [AV.int .i32 (0)] := by kernel_rfl
@[go_sem] theorem intT_21 : intT Try.prog 21 = some .i32 := by kernel_rfl
@[go_sem] theorem sizeT_22 : sizeT Try.prog 22 = some 3 := by kernel_rfl
@[go_sem] theorem aggT_22 : aggT Try.prog 22 = some true := by kernel_rfl
@[go_sem] theorem bytesT_22 : bytesT Try.prog 22 = some 40 := by kernel_rfl
@[go_sem] theorem zeroT_22 : zeroT Try.prog 22 = some [AV.str ⟨#[]⟩, AV.str ⟨#[]⟩, AV.int .i64 (0)] := by kernel_rfl
@[go_sem] theorem fieldT_22_0 : fieldT Try.prog 22 0 = some (0, 9) := by kernel_rfl
@[go_sem] theorem fieldT_22_1 : fieldT Try.prog 22 1 = some (1, 9) := by kernel_rfl
@[go_sem] theorem fieldT_22_2 : fieldT Try.prog 22 2 = some (2, 3) := by kernel_rfl
@[go_sem] theorem eqK_22 : eqK Try.prog 22 = some [.str, .str, .int] := by kernel_rfl
@[go_sem] theorem placesT_22 : placesT Try.prog 22 = some [(0, 1), (1, 1), (2, 1)] := by kernel_rfl
@[go_sem] theorem sizeT_23 : sizeT Try.prog 23 = some 3 := by kernel_rfl
@[go_sem] theorem aggT_23 : aggT Try.prog 23 = some true := by kernel_rfl
@[go_sem] theorem bytesT_23 : bytesT Try.prog 23 = some 40 := by kernel_rfl
@[go_sem] theorem zeroT_23 : zeroT Try.prog 23 = some [AV.str ⟨#[]⟩, AV.str ⟨#[]⟩, AV.int .i64 (0)] := by kernel_rfl
@[go_sem] theorem fieldT_23_0 : fieldT Try.prog 23 0 = some (0, 9) := by kernel_rfl
@[go_sem] theorem fieldT_23_1 : fieldT Try.prog 23 1 = some (1, 9) := by kernel_rfl
@[go_sem] theorem fieldT_23_2 : fieldT Try.prog 23 2 = some (2, 3) := by kernel_rfl
@[go_sem] theorem eqK_23 : eqK Try.prog 23 = some [.str, .str, .int] := by kernel_rfl
@[go_sem] theorem placesT_23 : placesT Try.prog 23 = some [(0, 1), (1, 1), (2, 1)] := by kernel_rfl
@[go_sem] theorem sizeT_24 : sizeT Try.prog 24 = some 7 := by kernel_rfl
@[go_sem] theorem aggT_24 : aggT Try.prog 24 = some true := by kernel_rfl
@[go_sem] theorem bytesT_24 : bytesT Try.prog 24 = some 96 := by kernel_rfl
@[go_sem] theorem zeroT_24 : zeroT Try.prog 24 = some [AV.str ⟨#[]⟩, AV.str ⟨#[]⟩, AV.int .i64 (0), AV.str ⟨#[]⟩, AV.int .i64 (0), AV.str ⟨#[]⟩, AV.str ⟨#[]⟩] := by kernel_rfl
@[go_sem] theorem fieldT_24_0 : fieldT Try.prog 24 0 = some (0, 23) := by kernel_rfl
@[go_sem] theorem fieldT_24_1 : fieldT Try.prog 24 1 = some (3, 9) := by kernel_rfl
@[go_sem] theorem fieldT_24_2 : fieldT Try.prog 24 2 = some (4, 3) := by kernel_rfl
@[go_sem] theorem fieldT_24_3 : fieldT Try.prog 24 3 = some (5, 9) := by kernel_rfl
@[go_sem] theorem fieldT_24_4 : fieldT Try.prog 24 4 = some (6, 9) := by kernel_rfl
@[go_sem] theorem eqK_24 : eqK Try.prog 24 = some [.str, .str, .int, .str, .int, .str, .str] := by kernel_rfl
@[go_sem] theorem placesT_24 : placesT Try.prog 24 = some [(0, 3), (3, 1), (4, 1), (5, 1), (6, 1)] := by kernel_rfl
@[go_sem] theorem sizeT_25 : sizeT Try.prog 25 = some 7 := by kernel_rfl
@[go_sem] theorem aggT_25 : aggT Try.prog 25 = some true := by kernel_rfl
@[go_sem] theorem bytesT_25 : bytesT Try.prog 25 = some 96 := by kernel_rfl
@[go_sem] theorem zeroT_25 : zeroT Try.prog 25 = some [AV.str ⟨#[]⟩, AV.str ⟨#[]⟩, AV.int .i64 (0), AV.str ⟨#[]⟩, AV.int .i64 (0), AV.str ⟨#[]⟩, AV.str ⟨#[]⟩] := by kernel_rfl
@[go_sem] theorem fieldT_25_0 : fieldT Try.prog 25 0 = some (0, 23) := by kernel_rfl
@[go_sem] theorem fieldT_25_1 : fieldT Try.prog 25 1 = some (3, 9) := by kernel_rfl
@[go_sem] theorem fieldT_25_2 : fieldT Try.prog 25 2 = some (4, 3) := by kernel_rfl
@[go_sem] theorem fieldT_25_3 : fieldT Try.prog 25 3 = some (5, 9) := by kernel_rfl
@[go_sem] theorem fieldT_25_4 : fieldT Try.prog 25 4 = some (6, 9) := by kernel_rfl
@[go_sem] theorem eqK_25 : eqK Try.prog 25 = some [.str, .str, .int, .str, .int, .str, .str] := by kernel_rfl
@[go_sem] theorem placesT_25 : placesT Try.prog 25 = some [(0, 3), (3, 1), (4, 1), (5, 1), (6, 1)] := by kernel_rfl
@[go_sem] theorem sizeT_26 : sizeT Try.prog 26 = some 1 := by kernel_rfl
@[go_sem] theorem aggT_26 : aggT Try.prog 26 = some false := by kernel_rfl
@[go_sem] theorem bytesT_26 : bytesT Try.prog 26 = some 8 := by kernel_rfl
@[go_sem] theorem zeroT_26 : zeroT Try.prog 26 = some [AV.any] := by kernel_rfl
@[go_sem] theorem sizeT_27 : sizeT Try.prog 27 = some 1 := by kernel_rfl
@[go_sem] theorem aggT_27 : aggT Try.prog 27 = some false := by kernel_rfl
@[go_sem] theorem bytesT_27 : bytesT Try.prog 27 = some 8 := by kernel_rfl
@[go_sem] theorem zeroT_27 : zeroT Try.prog 27 = some [AV.any] := by kernel_rfl
@[go_sem] theorem sizeT_28 : sizeT Try.prog 28 = some 1 := by kernel_rfl
@[go_sem] theorem aggT_28 : aggT Try.prog 28 = some false := by kernel_rfl
@[go_sem] theorem bytesT_28 : bytesT Try.prog 28 = some 8 := by kernel_rfl
@[go_sem] theorem zeroT_28 : zeroT Try.prog 28 = some [AV.any] := by kernel_rfl
@[go_sem] theorem sizeT_29 : sizeT Try.prog 29 = some 1 := by kernel_rfl
@[go_sem] theorem aggT_29 : aggT Try.prog 29 = some false := by kernel_rfl
@[go_sem] theorem bytesT_29 : bytesT Try.prog 29 = some 8 := by kernel_rfl
@[go_sem] theorem zeroT_29 : zeroT Try.prog 29 = some [AV.int .i64 (0)] := by kernel_rfl
@[go_sem] theorem intT_29 : intT Try.prog 29 = some .i64 := by kernel_rfl
@[go_sem] theorem sizeT_30 : sizeT Try.prog 30 = some 1 := by kernel_rfl
@[go_sem] theorem aggT_30 : aggT Try.prog 30 = some false := by kernel_rfl
@[go_sem] theorem bytesT_30 : bytesT Try.prog 30 = some 8 := by kernel_rfl
@[go_sem] theorem zeroT_30 : zeroT Try.prog 30 = some [AV.any] := by kernel_rfl
@[go_sem] theorem sizeT_31 : sizeT Try.prog 31 = some 1 := by kernel_rfl
@[go_sem] theorem aggT_31 : aggT Try.prog 31 = some false := by kernel_rfl
@[go_sem] theorem bytesT_31 : bytesT Try.prog 31 = some 8 := by kernel_rfl
@[go_sem] theorem zeroT_31 : zeroT Try.prog 31 = some [AV.any] := by kernel_rfl
@[go_sem] theorem sizeT_32 : sizeT Try.prog 32 = some 1 := by kernel_rfl
@[go_sem] theorem aggT_32 : aggT Try.prog 32 = some false := by kernel_rfl
@[go_sem] theorem bytesT_32 : bytesT Try.prog 32 = some 8 := by kernel_rfl
@[go_sem] theorem zeroT_32 : zeroT Try.prog 32 = some [AV.any] := by kernel_rfl
@[go_sem] theorem sizeT_33 : sizeT Try.prog 33 = some 1 := by kernel_rfl
@[go_sem] theorem aggT_33 : aggT Try.prog 33 = some false := by kernel_rfl
@[go_sem] theorem bytesT_33 : bytesT Try.prog 33 = some 8 := by kernel_rfl
@[go_sem] theorem zeroT_33 : zeroT Try.prog 33 = some [AV.any] := by kernel_rfl
@[go_sem] theorem sizeT_34 : sizeT Try.prog 34 = some 1 := by kernel_rfl
@[go_sem] theorem aggT_34 : aggT Try.prog 34 = some false := by kernel_rfl
@[go_sem] theorem bytesT_34 : bytesT Try.prog 34 = some 8 := by kernel_rfl
@[go_sem] theorem zeroT_34 : zeroT Try.prog 34 = some [AV.any] := by kernel_rfl
@[go_sem] theorem sizeT_35 : sizeT Try.prog 35 = some 1 := by kernel_rfl
@[go_sem] theorem aggT_35 : aggT Try.prog 35 = some false := by kernel_rfl
@[go_sem] theorem bytesT_35 : bytesT Try.prog 35 = some 24 := by kernel_rfl
@[go_sem] theorem zeroT_35 : zeroT Try.prog 35 = some [AV.nils] := by kernel_rfl
@[go_sem] theorem elemT_35 : elemT Try.prog 35 = some 25 := by kernel_rfl
@[go_sem] theorem isBytesT_35 : isBytesT Try.prog 35 = false := by kernel_rfl
@[go_sem] theorem sizeT_36 : sizeT Try.prog 36 = some 2 := by kernel_rfl
@[go_sem] theorem aggT_36 : aggT Try.prog 36 = some true := by kernel_rfl
@[go_sem] theorem bytesT_36 : bytesT Try.prog 36 = some 32 := by kernel_rfl
@[go_sem] theorem zeroT_36 : zeroT Try.prog 36 = some [AV.nils, AV.int .i64 (0)] := by kernel_rfl
@[go_sem] theorem fieldT_36_0 : fieldT Try.prog 36 0 = some (0, 35) := by kernel_rfl
@[go_sem] theorem fieldT_36_1 : fieldT Try.prog 36 1 = some (1, 3) := by kernel_rfl
@[go_sem] theorem placesT_36 : placesT Try.prog 36 = some [(0, 1), (1, 1)] := by kernel_rfl
@[go_sem] theorem sizeT_37 : sizeT Try.prog 37 = some 2 := by kernel_rfl
@[go_sem] theorem aggT_37 : aggT Try.prog 37 = some true := by kernel_rfl
@[go_sem] theorem bytesT_37 : bytesT Try.prog 37 = some 32 := by kernel_rfl
@[go_sem] theorem zeroT_37 : zeroT Try.prog 37 = some [AV.nils, AV.int .i64 (0)] := by kernel_rfl
@[go_sem] theorem fieldT_37_0 : fieldT Try.prog 37 0 = some (0, 35) := by kernel_rfl
@[go_sem] theorem fieldT_37_1 : fieldT Try.prog 37 1 = some (1, 3) := by kernel_rfl
@[go_sem] theorem placesT_37 : placesT Try.prog 37 = some [(0, 1), (1, 1)] := by kernel_rfl
@[go_sem] theorem sizeT_38 : sizeT Try.prog 38 = some 1 := by kernel_rfl
@[go_sem] theorem aggT_38 : aggT Try.prog 38 = some false := by kernel_rfl
@[go_sem] theorem bytesT_38 : bytesT Try.prog 38 = some 8 := by kernel_rfl
@[go_sem] theorem zeroT_38 : zeroT Try.prog 38 = some [AV.any] := by kernel_rfl
@[go_sem] theorem sizeT_40 : sizeT Try.prog 40 = some 1 := by kernel_rfl
@[go_sem] theorem aggT_40 : aggT Try.prog 40 = some false := by kernel_rfl
@[go_sem] theorem bytesT_40 : bytesT Try.prog 40 = some 8 := by kernel_rfl
@[go_sem] theorem zeroT_40 : zeroT Try.prog 40 = some [AV.any] := by kernel_rfl
@[go_sem] theorem sizeT_41 : sizeT Try.prog 41 = some 1 := by kernel_rfl
@[go_sem] theorem aggT_41 : aggT Try.prog 41 = some false := by kernel_rfl
@[go_sem] theorem bytesT_41 : bytesT Try.prog 41 = some 8 := by kernel_rfl
@[go_sem] theorem zeroT_41 : zeroT Try.prog 41 = some [AV.any] := by kernel_rfl
@[go_sem] theorem sizeT_43 : sizeT Try.prog 43 = some 1 := by kernel_rfl
@[go_sem] theorem aggT_43 : aggT Try.prog 43 = some false := by kernel_rfl
@[go_sem] theorem bytesT_43 : bytesT Try.prog 43 = some 8 := by kernel_rfl
@[go_sem] theorem zeroT_43 : zeroT Try.prog 43 = some [AV.any] := by kernel_rfl
@[go_sem] theorem sizeT_45 : sizeT Try.prog 45 = some 1 := by kernel_rfl
@[go_sem] theorem aggT_45 : aggT Try.prog 45 = some false := by kernel_rfl
@[go_sem] theorem bytesT_45 : bytesT Try.prog 45 = some 8 := by kernel_rfl
@[go_sem] theorem zeroT_45 : zeroT Try.prog 45 = some [AV.any] := by kernel_rfl
@[go_sem] theorem sizeT_46 : sizeT Try.prog 46 = some 1 := by kernel_rfl
@[go_sem] theorem aggT_46 : aggT Try.prog 46 = some false := by kernel_rfl
@[go_sem] theorem bytesT_46 : bytesT Try.prog 46 = some 8 := by kernel_rfl
@[go_sem] theorem zeroT_46 : zeroT Try.prog 46 = some [AV.any] := by kernel_rfl
@[go_sem] theorem sizeT_48 : sizeT Try.prog 48 = some 1 := by kernel_rfl
@[go_sem] theorem aggT_48 : aggT Try.prog 48 = some false := by kernel_rfl
@[go_sem] theorem bytesT_48 : bytesT Try.prog 48 = some 8 := by kernel_rfl
@[go_sem] theorem zeroT_48 : zeroT Try.prog 48 = some [AV.any] := by kernel_rfl
@[go_sem] theorem sizeT_49 : sizeT Try.prog 49 = some 9 := by kernel_rfl
@[go_sem] theorem aggT_49 : aggT Try.prog 49 = some true := by kernel_rfl
@[go_sem] theorem bytesT_49 : bytesT Try.prog 49 = some 120 := by kernel_rfl
@[go_sem] theorem zeroT_49 : zeroT Try.prog 49 = some [AV.int .i64 (0), AV.str ⟨#[]⟩, AV.str ⟨#[]⟩, AV.int .i64 (0), AV.str ⟨#[]⟩, AV.int .i64 (0), AV.str ⟨#[]⟩, AV.str ⟨#[]⟩, AV.str ⟨#[]⟩] := by kernel_rfl
@[go_sem] theorem fieldT_49_0 : fieldT Try.prog 49 0 = some (0, 3) := by kernel_rfl
@[go_sem] theorem fieldT_49_1 : fieldT Try.prog 49 1 = some (1, 25) := by kernel_rfl
@[go_sem] theorem fieldT_49_2 : fieldT Try.prog 49 2 = some (8, 9) := by kernel_rfl
@[go_sem] theorem eqK_49 : eqK Try.prog 49 = some [.int, .str, .str, .int, .str, .int, .str, .str, .str] := by kernel_rfl
@[go_sem] theorem placesT_49 : placesT Try.prog 49 = some [(0, 1), (1, 7), (8, 1)] := by kernel_rfl
@[go_sem] theorem sizeT_50 : sizeT Try.prog 50 = some 9 := by kernel_rfl
@[go_sem] theorem aggT_50 : aggT Try.prog 50 = some true := by kernel_rfl
@[go_sem] theorem bytesT_50 : bytesT Try.prog 50 = some 120 := by kernel_rfl
@[go_sem] theorem zeroT_50 : zeroT Try.prog 50 = some [AV.int .i64 (0), AV.str ⟨#[]⟩, AV.str ⟨#[]⟩, AV.int .i64 (0), AV.str ⟨#[]⟩, AV.int .i64 (0), AV.str ⟨#[]⟩, AV.str ⟨#[]⟩, AV.str ⟨#[]⟩] := by kernel_rfl
@[go_sem] theorem fieldT_50_0 : fieldT Try.prog 50 0 = some (0, 3) := by kernel_rfl
@[go_sem] theorem fieldT_50_1 : fieldT Try.prog 50 1 = some (1, 25) := by kernel_rfl
@[go_sem] theorem fieldT_50_2 : fieldT Try.prog 50 2 = some (8, 9) := by kernel_rfl
@[go_sem] theorem eqK_50 : eqK Try.prog 50 = some [.int, .str, .str, .int, .str, .int, .str, .str, .str] := by kernel_rfl
@[go_sem] theorem placesT_50 : placesT Try.prog 50 = some [(0, 1), (1, 7), (8, 1)] := by kernel_rfl
@[go_sem] theorem sizeT_51 : sizeT Try.prog 51 = some 1 := by kernel_rfl
@[go_sem] theorem aggT_51 : aggT Try.prog 51 = some false := by kernel_rfl
@[go_sem] theorem bytesT_51 : bytesT Try.prog 51 = some 8 := by kernel_rfl
@[go_sem] theorem zeroT_51 : zeroT Try.prog 51 = some [AV.any] := by kernel_rfl
@[go_sem] theorem sizeT_52 : sizeT Try.prog 52 = some 1 := by kernel_rfl
@[go_sem] theorem aggT_52 : aggT Try.prog 52 = some false := by kernel_rfl
@[go_sem] theorem bytesT_52 : bytesT Try.prog 52 = some 8 := by kernel_rfl
@[go_sem] theorem zeroT_52 : zeroT Try.prog 52 = some [AV.any] := by kernel_rfl
@[go_sem] theorem sizeT_53 : sizeT Try.prog 53 = some 1 := by kernel_rfl
@[go_sem] theorem aggT_53 : aggT Try.prog 53 = some false := by kernel_rfl
@[go_sem] theorem bytesT_53 : bytesT Try.prog 53 = some 8 := by kernel_rfl
@[go_sem] theorem zeroT_53 : zeroT Try.prog 53 = some [AV.any] := by kernel_rfl
@[go_sem] theorem sizeT_54 : sizeT Try.prog 54 = some 1 := by kernel_rfl
@[go_sem] theorem aggT_54 : aggT Try.prog 54 = some false := by kernel_rfl
@[go_sem] theorem bytesT_54 : bytesT Try.prog 54 = some 8 := by kernel_rfl
@[go_sem] theorem zeroT_54 : zeroT Try.prog 54 = some [AV.any] := by kernel_rfl
@[go_sem] theorem sizeT_55 : sizeT Try.prog 55 = some 1 := by kernel_rfl
@[go_sem] theorem aggT_55 : aggT Try.prog 55 = some false := by kernel_rfl
@[go_sem] theorem bytesT_55 : bytesT Try.prog 55 = some 8 := by kernel_rfl
@[go_sem] theorem zeroT_55 : zeroT Try.prog 55 = some [AV.any] := by kernel_rfl
@[go_sem] theorem sizeT_56 : sizeT Try.prog 56 = some 1 := by kernel_rfl
@[go_sem] theorem aggT_56 : aggT Try.prog 56 = some false := by kernel_rfl
@[go_sem] theorem bytesT_56 : bytesT Try.prog 56 = some 8 := by kernel_rfl
@[go_sem] theorem zeroT_56 : zeroT Try.prog 56 = some [AV.any] := by kernel_rfl
@[go_sem] theorem sizeT_57 : sizeT Try.prog 57 = some 1 := by kernel_rfl
@[go_sem] theorem aggT_57 : aggT Try.prog 57 = some false := by kernel_rfl
@[go_sem] theorem bytesT_57 : bytesT Try.prog 57 = some 8 := by kernel_rfl
@[go_sem] theorem zeroT_57 : zeroT Try.prog 57 = some [AV.any] := by kernel_rfl
@[go_sem] theorem sizeT_58 : sizeT Try.prog 58 = some 1 := by kernel_rfl
@[go_sem] theorem aggT_58 : aggT Try.prog 58 = some false := by kernel_rfl
@[go_sem] theorem bytesT_58 : bytesT Try.prog 58 = some 8 := by kernel_rfl
@[go_sem] theorem zeroT_58 : zeroT Try.prog 58 = some [AV.any] := by kernel_rfl
@[go_sem] theorem sizeT_60 : sizeT Try.prog 60 = some 1 := by kernel_rfl
@[go_sem] theorem aggT_60 : aggT Try.prog 60 = some false := by kernel_rfl
@[go_sem] theorem bytesT_60 : bytesT Try.prog 60 = some 8 := by kernel_rfl
@[go_sem] theorem zeroT_60 : zeroT Try.prog 60 = some [AV.any] := by kernel_rfl
@[go_sem] theorem sizeT_61 : sizeT Try.prog 61 = some 1 := by kernel_rfl
@[go_sem] theorem aggT_61 : aggT Try.prog 61 = some false := by kernel_rfl
@[go_sem] theorem bytesT_61 : bytesT Try.prog 61 = some 24 := by kernel_rfl
@[go_sem] theorem zeroT_61 : zeroT Try.prog 61 = some [AV.nils] := by kernel_rfl
@[go_sem] theorem elemT_61 : elemT Try.prog 61 = some 3 := by kernel_rfl
@[go_sem] theorem isBytesT_61 : isBytesT Try.prog 61 = false := by kernel_rfl
@[go_sem] theorem sizeT_63 : sizeT Try.prog 63 = some 1 := by kernel_rfl
@[go_sem] theorem aggT_63 : aggT Try.prog 63 = some false := by kernel_rfl
@[go_sem] theorem bytesT_63 : bytesT Try.prog 63 = some 8 := by kernel_rfl
@[go_sem] theorem zeroT_63 : zeroT Try.prog 63 = some [AV.any] := by kernel_rfl
@[go_sem] theorem sizeT_64 : sizeT Try.prog 64 = some 1 := by kernel_rfl
@[go_sem] theorem aggT_64 : aggT Try.prog 64 = some false := by kernel_rfl
@[go_sem] theorem bytesT_64 : bytesT Try.prog 64 = some 8 := by kernel_rfl
@[go_sem] theorem zeroT_64 : zeroT Try.prog 64 = some [AV.any] := by kernel_rfl
@[go_sem] theorem sizeT_65 : sizeT Try.prog 65 = some 1 := by kernel_rfl
@[go_sem] theorem aggT_65 : aggT Try.prog 65 = some false := by kernel_rfl
@[go_sem] theorem bytesT_65 : bytesT Try.prog 65 = some 8 := by kernel_rfl
@[go_sem] theorem zeroT_65 : zeroT Try.prog 65 = some [AV.any] := by kernel_rfl
@[go_sem] theorem sizeT_66 : sizeT Try.prog 66 = some 1 := by kernel_rfl
@[go_sem] theorem aggT_66 : aggT Try.prog 66 = some false := by kernel_rfl
@[go_sem] theorem bytesT_66 : bytesT Try.prog 66 = some 8 := by kernel_rfl
@[go_sem] theorem zeroT_66 : zeroT Try.prog 66 = some [AV.any] := by kernel_rfl
@[go_sem] theorem sizeT_67 : sizeT Try.prog 67 = some 1 := by kernel_rfl
@[go_sem] theorem aggT_67 : aggT Try.prog 67 = some false := by kernel_rfl
@[go_sem] theorem bytesT_67 : bytesT Try.prog 67 = some 8 := by kernel_rfl
@[go_sem] theorem zeroT_67 : zeroT Try.prog 67 = some [AV.any] := by kernel_rfl
@[go_sem] theorem sizeT_68 : sizeT Try.prog 68 = some 1 := by kernel_rfl
@[go_sem] theorem aggT_68 : aggT Try.prog 68 = some false := by kernel_rfl
@[go_sem] theorem bytesT_68 : bytesT Try.prog 68 = some 8 := by kernel_rfl
@[go_sem] theorem zeroT_68 : zeroT Try.prog 68 = some [AV.any] := by kernel_rfl
@[go_sem] theorem sizeT_69 : sizeT Try.prog 69 = some 1 := by kernel_rfl
@[go_sem] theorem aggT_69 : aggT Try.prog 69 = some false := by kernel_rfl
@[go_sem] theorem bytesT_69 : bytesT Try.prog 69 = some 8 := by kernel_rfl
@[go_sem] theorem zeroT_69 : zeroT Try.prog 69 = some [AV.any] := by kernel_rfl
@[go_sem] theorem sizeT_70 : sizeT Try.prog 70 = some 1 := by kernel_rfl
@[go_sem] theorem aggT_70 : aggT Try.prog 70 = some false := by kernel_rfl
@[go_sem] theorem bytesT_70 : bytesT Try.prog 70 = some 8 := by kernel_rfl
@[go_sem] theorem zeroT_70 : zeroT Try.prog 70 = some [AV.any] := by kernel_rfl
@[go_sem] theorem sizeT_71 : sizeT Try.prog 71 = some 1 := by kernel_rfl
@[go_sem] theorem aggT_71 : aggT Try.prog 71 = some false := by kernel_rfl
@[go_sem] theorem bytesT_71 : bytesT Try.prog 71 = some 8 := by kernel_rfl
@[go_sem] theorem zeroT_71 : zeroT Try.prog 71 = some [AV.any] := by kernel_rfl
@[go_sem] theorem sizeT_72 : sizeT Try.prog 72 = some 1 := by kernel_rfl
@[go_sem] theorem aggT_72 : aggT Try.prog 72 = some false := by kernel_rfl
@[go_sem] theorem bytesT_72 : bytesT Try.prog 72 = some 8 := by kernel_rfl
@[go_sem] theorem zeroT_72 : zeroT Try.prog 72 = some [AV.any] := by kernel_rfl
@[go_sem] theorem sizeT_73 : sizeT Try.prog 73 = some 1 := by kernel_rfl
@[go_sem] theorem aggT_73 : aggT Try.prog 73 = some false := by kernel_rfl
@[go_sem] theorem bytesT_73 : bytesT Try.prog 73 = some 8 := by kernel_rfl
@[go_sem] theorem zeroT_73 : zeroT Try.prog 73 = some [AV.any] := by kernel_rfl
@[go_sem] theorem sizeT_74 : sizeT Try.prog 74 = some 1 := by kernel_rfl
@[go_sem] theorem aggT_74 : aggT Try.prog 74 = some false := by kernel_rfl
@[go_sem] theorem bytesT_74 : bytesT Try.prog 74 = some 8 := by kernel_rfl
@[go_sem] theorem zeroT_74 : zeroT Try.prog 74 = some [AV.any] := by kernel_rfl
@[go_sem] theorem sizeT_75 : sizeT Try.prog 75 = some 1 := by kernel_rfl
@[go_sem] theorem aggT_75 : aggT Try.prog 75 = some false := by kernel_rfl
@[go_sem] theorem bytesT_75 : bytesT Try.prog 75 = some 8 := by kernel_rfl
@[go_sem] theorem zeroT_75 : zeroT Try.prog 75 = some [AV.any] := by kernel_rfl
@[go_sem] theorem sizeT_76 : sizeT Try.prog 76 = some 1 := by kernel_rfl
@[go_sem] theorem aggT_76 : aggT Try.prog 76 = some false := by kernel_rfl
@[go_sem] theorem bytesT_76 : bytesT Try.prog 76 = some 8 := by kernel_rfl
@[go_sem] theorem zeroT_76 : zeroT Try.prog 76 = some [AV.any] := by kernel_rfl
@[go_sem] theorem sizeT_77 : sizeT Try.prog 77 = some 1 := by kernel_rfl
@[go_sem] theorem aggT_77 : aggT Try.prog 77 = some false := by kernel_rfl
@[go_sem] theorem bytesT_77 : bytesT Try.prog 77 = some 24 := by kernel_rfl
@[go_sem] theorem zeroT_77 : zeroT Try.prog 77 = some [AV.nils] := by kernel_rfl
@[go_sem] theorem elemT_77 : elemT Try.prog 77 = some 50 := by kernel_rfl
@[go_sem] theorem isBytesT_77 : isBytesT Try.prog 77 = false := by kernel_rfl
@[go_sem] theorem sizeT_78 : sizeT Try.prog 78 = some 1 := by kernel_rfl
@[go_sem] theorem aggT_78 : aggT Try.prog 78 = some false := by kernel_rfl
@[go_sem] theorem bytesT_78 : bytesT Try.prog 78 = some 8 := by kernel_rfl
@[go_sem] theorem zeroT_78 : zeroT Try.prog 78 = some [AV.any] := by kernel_rfl
@[go_sem] theorem sizeT_79 : sizeT Try.prog 79 = some 1 := by kernel_rfl
@[go_sem] theorem aggT_79 : aggT Try.prog 79 = some false := by kernel_rfl
@[go_sem] theorem bytesT_79 : bytesT Try.prog 79 = some 8 := by kernel_rfl
@[go_sem] theorem zeroT_79 : zeroT Try.prog 79 = some [AV.any] := by kernel_rfl
@[go_sem] theorem sizeT_80 : sizeT Try.prog 80 = some 1 := by kernel_rfl
@[go_sem] theorem aggT_80 : aggT Try.prog 80 = some false := by kernel_rfl
@[go_sem] theorem bytesT_80 : bytesT Try.prog 80 = some 8 := by kernel_rfl
@[go_sem] theorem zeroT_80 : zeroT Try.prog 80 = some [AV.any] := by kernel_rfl
@[go_sem] theorem sizeT_81 : sizeT Try.prog 81 = some 1 := by kernel_rfl
@[go_sem] theorem aggT_81 : aggT Try.prog 81 = some false := by kernel_rfl
@[go_sem] theorem bytesT_81 : bytesT Try.prog 81 = some 8 := by kernel_rfl
@[go_sem] theorem zeroT_81 : zeroT Try.prog 81 = some [AV.any] := by kernel_rfl
@[go_sem] theorem sizeT_82 : sizeT Try.prog 82 = some 1 := by kernel_rfl
@[go_sem] theorem aggT_82 : aggT Try.prog 82 = some false := by kernel_rfl
@[go_sem] theorem bytesT_82 : bytesT Try.prog 82 = some 8 := by kernel_rfl
@[go_sem] theorem zeroT_82 : zeroT Try.prog 82 = some [AV.any] := by kernel_rfl
@[go_sem] theorem sizeT_83 : sizeT Try.prog 83 = some 1 := by kernel_rfl
@[go_sem] theorem aggT_83 : aggT Try.prog 83 = some false := by kernel_rfl
@[go_sem] theorem bytesT_83 : bytesT Try.prog 83 = some 8 := by kernel_rfl
@[go_sem] theorem zeroT_83 : zeroT Try.prog 83 = some [AV.any] := by kernel_rfl
@[go_sem] theorem sizeT_84 : sizeT Try.prog 84 = some 1 := by kernel_rfl
@[go_sem] theorem aggT_84 : aggT Try.prog 84 = some false := by kernel_rfl
@[go_sem] theorem bytesT_84 : bytesT Try.prog 84 = some 8 := by kernel_rfl
@[go_sem] theorem zeroT_84 : zeroT Try.prog 84 = some [AV.any] := by kernel_rfl
@[go_sem] theorem sizeT_85 : sizeT Try.prog 85 = some 1 := by kernel_rfl
@[go_sem] theorem aggT_85 : aggT Try.prog 85 = some false := by kernel_rfl
@[go_sem] theorem bytesT_85 : bytesT Try.prog 85 = some 8 := by kernel_rfl
@[go_sem] theorem zeroT_85 : zeroT Try.prog 85 = some [AV.any] := by kernel_rfl
@[go_sem] theorem sizeT_86 : sizeT Try.prog 86 = some 1 := by kernel_rfl
@[go_sem] theorem aggT_86 : aggT Try.prog 86 = some false := by kernel_rfl
@[go_sem] theorem bytesT_86 : bytesT Try.prog 86 = some 24 := by kernel_rfl
@[go_sem] theorem zeroT_86 : zeroT Try.prog 86 = some [AV.nils] := by kernel_rfl
@[go_sem] theorem elemT_86 : elemT Try.prog 86 = some 5 := by kernel_rfl
@[go_sem] theorem isBytesT_86 : isBytesT Try.prog 86 = true := by kernel_rfl
@[go_sem] theorem sizeT_87 : sizeT Try.prog 87 = some 1 := by kernel_rfl
@[go_sem] theorem aggT_87 : aggT Try.prog 87 = some false := by kernel_rfl
@[go_sem] theorem bytesT_87 : bytesT Try.prog 87 = some 8 := by kernel_rfl
@[go_sem] theorem zeroT_87 : zeroT Try.prog 87 = some [AV.any] := by kernel_rfl
@[go_sem] theorem sizeT_88 : sizeT Try.prog 88 = some 1 := by kernel_rfl
@[go_sem] theorem aggT_88 : aggT Try.prog 88 = some false := by kernel_rfl
@[go_sem] theorem bytesT_88 : bytesT Try.prog 88 = some 8 := by kernel_rfl
@[go_sem] theorem zeroT_88 : zeroT Try.prog 88 = some [AV.any] := by kernel_rfl
@[go_sem] theorem sizeT_89 : sizeT Try.prog 89 = some 1 := by kernel_rfl
@[go_sem] theorem aggT_89 : aggT Try.prog 89 = some false := by kernel_rfl
@[go_sem] theorem bytesT_89 : bytesT Try.prog 89 = some 8 := by kernel_rfl
@[go_sem] theorem zeroT_89 : zeroT Try.prog 89 = some [AV.any] := by kernel_rfl
@[go_sem] theorem sizeT_90 : sizeT Try.prog 90 = some 1 := by kernel_rfl
@[go_sem] theorem aggT_90 : aggT Try.prog 90 = some false := by kernel_rfl
@[go_sem] theorem bytesT_90 : bytesT Try.prog 90 = some 8 := by kernel_rfl
@[go_sem] theorem zeroT_90 : zeroT Try.prog 90 = some [AV.any] := by kernel_rfl
@[go_sem] theorem sizeT_91 : sizeT Try.prog 91 = some 1 := by kernel_rfl
@[go_sem] theorem aggT_91 : aggT Try.prog 91 = some false := by kernel_rfl
@[go_sem] theorem bytesT_91 : bytesT Try.prog 91 = some 8 := by kernel_rfl
@[go_sem] theorem zeroT_91 : zeroT Try.prog 91 = some [AV.any] := by kernel_rfl
@[go_sem] theorem sizeT_92 : sizeT Try.prog 92 = some 1 := by kernel_rfl
@[go_sem] theorem aggT_92 : aggT Try.prog 92 = some false := by kernel_rfl
@[go_sem] theorem bytesT_92 : bytesT Try.prog 92 = some 8 := by kernel_rfl
@[go_sem] theorem zeroT_92 : zeroT Try.prog 92 = some [AV.any] := by kernel_rfl
@[go_sem] theorem sizeT_93 : sizeT Try.prog 93 = some 1 := by kernel_rfl
@[go_sem] theorem aggT_93 : aggT Try.prog 93 = some false := by kernel_rfl
@[go_sem] theorem bytesT_93 : bytesT Try.prog 93 = some 8 := by kernel_rfl
@[go_sem] theorem zeroT_93 : zeroT Try.prog 93 = some [AV.any] := by kernel_rfl
@[go_sem] theorem sizeT_94 : sizeT Try.prog 94 = some 1 := by kernel_rfl
@[go_sem] theorem aggT_94 : aggT Try.prog 94 = some false := by kernel_rfl
@[go_sem] theorem bytesT_94 : bytesT Try.prog 94 = some 8 := by kernel_rfl
@[go_sem] theorem zeroT_94 : zeroT Try.prog 94 = some [AV.any] := by kernel_rfl
@[go_sem] theorem sizeT_95 : sizeT Try.prog 95 = some 1 := by kernel_rfl
@[go_sem] theorem aggT_95 : aggT Try.prog 95 = some false := by kernel_rfl
@[go_sem] theorem bytesT_95 : bytesT Try.prog 95 = some 8 := by kernel_rfl
@[go_sem] theorem zeroT_95 : zeroT Try.prog 95 = some [AV.any] := by kernel_rfl
@[go_sem] theorem sizeT_96 : sizeT Try.prog 96 = some 1 := by kernel_rfl
@[go_sem] theorem aggT_96 : aggT Try.prog 96 = some false := by kernel_rfl
@[go_sem] theorem bytesT_96 : bytesT Try.prog 96 = some 8 := by kernel_rfl
@[go_sem] theorem zeroT_96 : zeroT Try.prog 96 = some [AV.any] := by kernel_rfl
@[go_sem] theorem sizeT_97 : sizeT Try.prog 97 = some 1 := by kernel_rfl
@[go_sem] theorem aggT_97 : aggT Try.prog 97 = some false := by kernel_rfl
@[go_sem] theorem bytesT_97 : bytesT Try.prog 97 = some 8 := by kernel_rfl
@[go_sem] theorem zeroT_97 : zeroT Try.prog 97 = some [AV.any] := by kernel_rfl
@[go_sem] theorem sizeT_98 : sizeT Try.prog 98 = some 1 := by kernel_rfl
@[go_sem] theorem aggT_98 : aggT Try.prog 98 = some false := by kernel_rfl
@[go_sem] theorem bytesT_98 : bytesT Try.prog 98 = some 8 := by kernel_rfl
@[go_sem] theorem zeroT_98 : zeroT Try.prog 98 = some [AV.any] := by kernel_rfl
@[go_sem] theorem sizeT_99 : sizeT Try.prog 99 = some 1 := by kernel_rfl
@[go_sem] theorem aggT_99 : aggT Try.prog 99 = some false := by kernel_rfl
@[go_sem] theorem bytesT_99 : bytesT Try.prog 99 = some 8 := by kernel_rfl
@[go_sem] theorem zeroT_99 : zeroT Try.prog 99 = some [AV.any] := by kernel_rfl
@[go_sem] theorem sizeT_100 : sizeT Try.prog 100 = some 1 := by kernel_rfl
@[go_sem] theorem aggT_100 : aggT Try.prog 100 = some false := by kernel_rfl
@[go_sem] theorem bytesT_100 : bytesT Try.prog 100 = some 8 := by kernel_rfl
@[go_sem] theorem zeroT_100 : zeroT Try.prog 100 = some [AV.any] := by kernel_rfl
@[go_sem] theorem sizeT_101 : sizeT Try.prog 101 = some 1 := by kernel_rfl
@[go_sem] theorem aggT_101 : aggT Try.prog 101 = some false := by kernel_rfl
@[go_sem] theorem bytesT_101 : bytesT Try.prog 101 = some 8 := by kernel_rfl
@[go_sem] theorem zeroT_101 : zeroT Try.prog 101 = some [AV.any] := by kernel_rfl
@[go_sem] theorem sizeT_102 : sizeT Try.prog 102 = some 1 := by kernel_rfl
@[go_sem] theorem aggT_102 : aggT Try.prog 102 = some false := by kernel_rfl
@[go_sem] theorem bytesT_102 : bytesT Try.prog 102 = some 8 := by kernel_rfl
@[go_sem] theorem zeroT_102 : zeroT Try.prog 102 = some [AV.any] := by kernel_rfl
@[go_sem] theorem sizeT_103 : sizeT Try.prog 103 = some 2 := by kernel_rfl
@[go_sem] theorem aggT_103 : aggT Try.prog 103 = some true := by kernel_rfl
@[go_sem] theorem bytesT_103 : bytesT Try.prog 103 = some 32 := by kernel_rfl
@[go_sem] theorem zeroT_103 : zeroT Try.prog 103 = some [AV.str ⟨#[]⟩, AV.str ⟨#[]⟩] := by kernel_rfl
@[go_sem] theorem fieldT_103_0 : fieldT Try.prog 103 0 = some (0, 9) := by kernel_rfl
@[go_sem] theorem fieldT_103_1 : fieldT Try.prog 103 1 = some (1, 9) := by kernel_rfl
@[go_sem] theorem eqK_103 : eqK Try.prog 103 = some [.str, .str] := by kernel_rfl
@[go_sem] theorem placesT_103 : placesT Try.prog 103 = some [(0, 1), (1, 1)] := by kernel_rfl
@[go_sem] theorem sizeT_104 : sizeT Try.prog 104 = some 2 := by kernel_rfl
@[go_sem] theorem aggT_104 : aggT Try.prog 104 = some true := by kernel_rfl
@[go_sem] theorem bytesT_104 : bytesT Try.prog 104 = some 32 := by kernel_rfl
@[go_sem] theorem zeroT_104 : zeroT Try.prog 104 = some [AV.str ⟨#[]⟩, AV.str ⟨#[]⟩] := by kernel_rfl
@[go_sem] theorem fieldT_104_0 : fieldT Try.prog 104 0 = some (0, 9) := by kernel_rfl
@[go_sem] theorem fieldT_104_1 : fieldT Try.prog 104 1 = some (1, 9) := by kernel_rfl
@[go_sem] theorem eqK_104 : eqK Try.prog 104 = some [.str, .str] := by kernel_rfl
@[go_sem] theorem placesT_104 : placesT Try.prog 104 = some [(0, 1), (1, 1)] := by kernel_rfl
@[go_sem] theorem sizeT_105 : sizeT Try.prog 105 = some 1 := by kernel_rfl
@[go_sem] theorem aggT_105 : aggT Try.prog 105 = some false := by kernel_rfl
@[go_sem] theorem bytesT_105 : bytesT Try.prog 105 = some 24 := by kernel_rfl
@[go_sem] theorem zeroT_105 : zeroT Try.prog 105 = some [AV.nils] := by kernel_rfl
@[go_sem] theorem elemT_105 : elemT Try.prog 105 = some 104 := by kernel_rfl
@[go_sem] theorem isBytesT_105 : isBytesT Try.prog 105 = false := by kernel_rfl
@[go_sem] theorem sizeT_106 : sizeT Try.prog 106 = some 1 := by kernel_rfl
@[go_sem] theorem aggT_106 : aggT Try.prog 106 = some false := by kernel_rfl
@[go_sem] theorem bytesT_106 : bytesT Try.prog 106 = some 8 := by kernel_rfl
@[go_sem] theorem zeroT_106 : zeroT Try.prog 106 = some [AV.any] := by kernel_rfl
@[go_sem] theorem sizeT_107 : sizeT Try.prog 107 = some 1 := by kernel_rfl
@[go_sem] theorem aggT_107 : aggT Try.prog 107 = some false := by kernel_rfl
@[go_sem] theorem bytesT_107 : bytesT Try.prog 107 = some 8 := by kernel_rfl
@[go_sem] theorem zeroT_107 : zeroT Try.prog 107 = some [AV.any] := by kernel_rfl
@[go_sem] theorem sizeT_108 : sizeT Try.prog 108 = some 1 := by kernel_rfl
@[go_sem] theorem aggT_108 : aggT Try.prog 108 = some false := by kernel_rfl
@[go_sem] theorem bytesT_108 : bytesT Try.prog 108 = some 8 := by kernel_rfl
@[go_sem] theorem zeroT_108 : zeroT Try.prog 108 = some [AV.any] := by kernel_rfl
@[go_sem] theorem sizeT_109 : sizeT Try.prog 109 = some 1 := by kernel_rfl
@[go_sem] theorem aggT_109 : aggT Try.prog 109 = some false := by kernel_rfl
@[go_sem] theorem bytesT_109 : bytesT Try.prog 109 = some 8 := by kernel_rfl
@[go_sem] theorem zeroT_109 : zeroT Try.prog 109 = some [AV.any] := by kernel_rfl
@[go_sem] theorem sizeT_110 : sizeT Try.prog 110 = some 1 := by kernel_rfl
@[go_sem] theorem aggT_110 : aggT Try.prog 110 = some false := by kernel_rfl
@[go_sem] theorem bytesT_110 : bytesT Try.prog 110 = some 8 := by kernel_rfl
@[go_sem] theorem zeroT_110 : zeroT Try.prog 110 = some [AV.any] := by kernel_rfl
@[go_sem] theorem sizeT_111 : sizeT Try.prog 111 = some 1 := by kernel_rfl
@[go_sem] theorem aggT_111 : aggT Try.prog 111 = some false := by kernel_rfl
@[go_sem] theorem bytesT_111 : bytesT Try.prog 111 = some 8 := by kernel_rfl
@[go_sem] theorem zeroT_111 : zeroT Try.prog 111 = some [AV.any] := by kernel_rfl
@[go_sem] theorem sizeT_112 : sizeT Try.prog 112 = some 1 := by kernel_rfl
@[go_sem] theorem aggT_112 : aggT Try.prog 112 = some false := by kernel_rfl
@[go_sem] theorem bytesT_112 : bytesT Try.prog 112 = some 8 := by kernel_rfl
@[go_sem] theorem zeroT_112 : zeroT Try.prog 112 = some [AV.any] := by kernel_rfl
@[go_sem] theorem sizeT_113 : sizeT Try.prog 113 = some 1 := by kernel_rfl
@[go_sem] theorem aggT_113 : aggT Try.prog 113 = some false := by kernel_rfl
@[go_sem] theorem bytesT_113 : bytesT Try.prog 113 = some 8 := by kernel_rfl
@[go_sem] theorem zeroT_113 : zeroT Try.prog 113 = some [AV.any] := by kernel_rfl
@[go_sem] theorem sizeT_114 : sizeT Try.prog 114 = some 1 := by kernel_rfl
@[go_sem] theorem aggT_114 : aggT Try.prog 114 = some false := by kernel_rfl
@[go_sem] theorem bytesT_114 : bytesT Try.prog 114 = some 8 := by kernel_rfl
@[go_sem] theorem zeroT_114 : zeroT Try.prog 114 = some [AV.any] := by kernel_rfl
@[go_sem] theorem sizeT_115 : sizeT Try.prog 115 = some 1 := by kernel_rfl
@[go_sem] theorem aggT_115 : aggT Try.prog 115 = some false := by kernel_rfl
@[go_sem] theorem bytesT_115 : bytesT Try.prog 115 = some 8 := by kernel_rfl
@[go_sem] theorem zeroT_115 : zeroT Try.prog 115 = some [AV.any] := by kernel_rfl
@[go_sem] theorem sizeT_116 : sizeT Try.prog 116 = some 1 := by kernel_rfl
@[go_sem] theorem aggT_116 : aggT Try.prog 116 = some false := by kernel_rfl
@[go_sem] theorem bytesT_116 : bytesT Try.prog 116 = some 8 := by kernel_rfl
@[go_sem] theorem zeroT_116 : zeroT Try.prog 116 = some [AV.any] := by kernel_rfl
@[go_sem] theorem sizeT_117 : sizeT Try.prog 117 = some 1 := by kernel_rfl
@[go_sem] theorem aggT_117 : aggT Try.prog 117 = some false := by kernel_rfl
@[go_sem] theorem bytesT_117 : bytesT Try.prog 117 = some 8 := by kernel_rfl
@[go_sem] theorem zeroT_117 : zeroT Try.prog 117 = some [AV.any] := by kernel_rfl
@[go_sem] theorem sizeT_118 : sizeT Try.prog 118 = some 1 := by kernel_rfl
@[go_sem] theorem aggT_118 : aggT Try.prog 118 = some false := by kernel_rfl
@[go_sem] theorem bytesT_118 : bytesT Try.prog 118 = some 8 := by kernel_rfl
@[go_sem] theorem zeroT_118 : zeroT Try.prog 118 = some [AV.any] := by kernel_rfl
@[go_sem] theorem sizeT_119 : sizeT Try.prog 119 = some 1 := by kernel_rfl
@[go_sem] theorem aggT_119 : aggT Try.prog 119 = some false := by kernel_rfl
@[go_sem] theorem bytesT_119 : bytesT Try.prog 119 = some 8 := by kernel_rfl
@[go_sem] theorem zeroT_119 : zeroT Try.prog 119 = some [AV.any] := by kernel_rfl
@[go_sem] theorem sizeT_120 : sizeT Try.prog 120 = some 1 := by kernel_rfl
@[go_sem] theorem aggT_120 : aggT Try.prog 120 = some false := by kernel_rfl
@[go_sem] theorem bytesT_120 : bytesT Try.prog 120 = some 8 := by kernel_rfl
@[go_sem] theorem zeroT_120 : zeroT Try.prog 120 = some [AV.any] := by kernel_rfl
@[go_sem] theorem sizeT_121 : sizeT Try.prog 121 = some 1 := by kernel_rfl
@[go_sem] theorem aggT_121 : aggT Try.prog 121 = some false := by kernel_rfl
@[go_sem] theorem bytesT_121 : bytesT Try.prog 121 = some 8 := by kernel_rfl
@[go_sem] theorem zeroT_121 : zeroT Try.prog 121 = some [AV.any] := by kernel_rfl
@[go_sem] theorem sizeT_122 : sizeT Try.prog 122 = some 1 := by kernel_rfl
@[go_sem] theorem aggT_122 : aggT Try.prog 122 = some false := by kernel_rfl
@[go_sem] theorem bytesT_122 : bytesT Try.prog 122 = some 8 := by kernel_rfl
@[go_sem] theorem zeroT_122 : zeroT Try.prog 122 = some [AV.any] := by kernel_rfl
@[go_sem] theorem sizeT_123 : sizeT Try.prog 123 = some 1 := by kernel_rfl
@[go_sem] theorem aggT_123 : aggT Try.prog 123 = some false := by kernel_rfl
@[go_sem] theorem bytesT_123 : bytesT Try.prog 123 = some 8 := by kernel_rfl
@[go_sem] theorem zeroT_123 : zeroT Try.prog 123 = some [AV.int .u64 (0)] := by kernel_rfl
@[go_sem] theorem intT_123 : intT Try.prog 123 = some .u64 := by kernel_rfl
@[go_sem] theorem sizeT_124 : sizeT Try.prog 124 = some 1 := by kernel_rfl
@[go_sem] theorem aggT_124 : aggT Try.prog 124 = some false := by kernel_rfl
@[go_sem] theorem bytesT_124 : bytesT Try.prog 124 = some 8 := by kernel_rfl
@[go_sem] theorem zeroT_124 : zeroT Try.prog 124 = some [AV.any] := by kernel_rfl
@[go_sem] theorem sizeT_125 : sizeT Try.prog 125 = some 1 := by kernel_rfl
@[go_sem] theorem aggT_125 : aggT Try.prog 125 = some false := by kernel_rfl
@[go_sem] theorem bytesT_125 : bytesT Try.prog 125 = some 8 := by kernel_rfl
@[go_sem] theorem zeroT_125 : zeroT Try.prog 125 = some [AV.int .i64 (0)] := by kernel_rfl
@[go_sem] theorem intT_125 : intT Try.prog 125 = some .i64 := by kernel_rfl
@[go_sem] theorem sizeT_127 : sizeT Try.prog 127 = some 1 := by kernel_rfl
@[go_sem] theorem aggT_127 : aggT Try.prog 127 = some false := by kernel_rfl
@[go_sem] theorem bytesT_127 : bytesT Try.prog 127 = some 8 := by kernel_rfl
@[go_sem] theorem zeroT_127 : zeroT Try.prog 127 = some [AV.any] := by kernel_rfl
@[go_sem] theorem sizeT_128 : sizeT Try.prog 128 = some 1 := by kernel_rfl
@[go_sem] theorem aggT_128 : aggT Try.prog 128 = some false := by kernel_rfl
@[go_sem] theorem bytesT_128 : bytesT Try.prog 128 = some 8 := by kernel_rfl
@[go_sem] theorem zeroT_128 : zeroT Try.prog 128 = some [AV.any] := by kernel_rfl
@[go_sem] theorem sizeT_129 : sizeT Try.prog 129 = some 1 := by kernel_rfl
@[go_sem] theorem aggT_129 : aggT Try.prog 129 = some false := by kernel_rfl
@[go_sem] theorem bytesT_129 : bytesT Try.prog 129 = some 8 := by kernel_rfl
@[go_sem] theorem zeroT_129 : zeroT Try.prog 129 = some [AV.any] := by kernel_rfl
@[go_sem] theorem sizeT_131 : sizeT Try.prog 131 = some 1 := by kernel_rfl
@[go_sem] theorem aggT_131 : aggT Try.prog 131 = some false := by kernel_rfl
@[go_sem] theorem bytesT_131 : bytesT Try.prog 131 = some 8 := by kernel_rfl
@[go_sem] theorem zeroT_131 : zeroT Try.prog 131 = some [AV.any] := by kernel_rfl
@[go_sem] theorem sizeT_132 : sizeT Try.prog 132 = some 1 := by kernel_rfl
@[go_sem] theorem aggT_132 : aggT Try.prog 132 = some false := by kernel_rfl
@[go_sem] theorem bytesT_132 : bytesT Try.prog 132 = some 8 := by kernel_rfl
@[go_sem] theorem zeroT_132 : zeroT Try.prog 132 = some [AV.any] := by kernel_rfl
@[go_sem] theorem sizeT_133 : sizeT Try.prog 133 = some 1 := by kernel_rfl
@[go_sem] theorem aggT_133 : aggT Try.prog 133 = some false := by kernel_rfl
@[go_sem] theorem bytesT_133 : bytesT Try.prog 133 = some 4 := by kernel_rfl
@[go_sem] theorem zeroT_133 : zeroT Try.prog 133 = some [AV.int .u32 (0)] := by kernel_rfl
@[go_sem] theorem intT_133 : intT Try.prog 133 = some .u32 := by kernel_rfl
@[go_sem] theorem sizeT_134 : sizeT Try.prog 134 = some 1 := by kernel_rfl
@[go_sem] theorem aggT_134 : aggT Try.prog 134 = some false := by kernel_rfl
@[go_sem] theorem bytesT_134 : bytesT Try.prog 134 = some 8 := by kernel_rfl
@[go_sem] theorem zeroT_134 : zeroT Try.prog 134 = some [AV.any] := by kernel_rfl
@[go_sem] theorem sizeT_135 : sizeT Try.prog 135 = some 1 := by kernel_rfl
@[go_sem] theorem aggT_135 : aggT Try.prog 135 = some false := by kernel_rfl
@[go_sem] theorem bytesT_135 : bytesT Try.prog 135 = some 8 := by kernel_rfl
@[go_sem] theorem zeroT_135 : zeroT Try.prog 135 = some [AV.int .u64 (0)] := by kernel_rfl
@[go_sem] theorem intT_135 : intT Try.prog 135 = some .u64 := by kernel_rfl
@[go_sem] theorem sizeT_136 : sizeT Try.prog 136 = some 1 := by kernel_rfl
@[go_sem] theorem aggT_136 : aggT Try.prog 136 = some false := by kernel_rfl
@[go_sem] theorem bytesT_136 : bytesT Try.prog 136 = some 8 := by kernel_rfl
@[go_sem] theorem zeroT_136 : zeroT Try.prog 136 = some [AV.int .u64 (0)] := by kernel_rfl
@[go_sem] theorem intT_136 : intT Try.prog 136 = some .u64 := by kernel_rfl
@[go_sem] theorem sizeT_137 : sizeT Try.prog 137 = some 1 := by kernel_rfl
@[go_sem] theorem aggT_137 : aggT Try.prog 137 = some false := by kernel_rfl
@[go_sem] theorem bytesT_137 : bytesT Try.prog 137 = some 8 := by kernel_rfl
@[go_sem] theorem zeroT_137 : zeroT Try.prog 137 = some [AV.any] := by kernel_rfl
@[go_sem] theorem sizeT_138 : sizeT Try.prog 138 = some 1 := by kernel_rfl
@[go_sem] theorem aggT_138 : aggT Try.prog 138 = some false := by kernel_rfl
@[go_sem] theorem bytesT_138 : bytesT Try.prog 138 = some 8 := by kernel_rfl
@[go_sem] theorem zeroT_138 : zeroT Try.prog 138 = some [AV.any] := by kernel_rfl
@[go_sem] theorem sizeT_139 : sizeT Try.prog 139 = some 1 := by kernel_rfl
@[go_sem] theorem aggT_139 : aggT Try.prog 139 = some false := by kernel_rfl
@[go_sem] theorem bytesT_139 : bytesT Try.prog 139 = some 8 := by kernel_rfl
@[go_sem] theorem zeroT_139 : zeroT Try.prog 139 = some [AV.any] := by kernel_rfl
@[go_sem] theorem sizeT_140 : sizeT Try.prog 140 = some 1 := by kernel_rfl
@[go_sem] theorem aggT_140 : aggT Try.prog 140 = some false := by kernel_rfl
@[go_sem] theorem bytesT_140 : bytesT Try.prog 140 = some 8 := by kernel_rfl
@[go_sem] theorem zeroT_140 : zeroT Try.prog 140 = some [AV.any] := by kernel_rfl
@[go_sem] theorem sizeT_141 : sizeT Try.prog 141 = some 1 := by kernel_rfl
@[go_sem] theorem aggT_141 : aggT Try.prog 141 = some false := by kernel_rfl
@[go_sem] theorem bytesT_141 : bytesT Try.prog 141 = some 8 := by kernel_rfl
@[go_sem] theorem zeroT_141 : zeroT Try.prog 141 = some [AV.any] := by kernel_rfl
@[go_sem] theorem sizeT_142 : sizeT Try.prog 142 = some 1 := by kernel_rfl
@[go_sem] theorem aggT_142 : aggT Try.prog 142 = some false := by kernel_rfl
@[go_sem] theorem bytesT_142 : bytesT Try.prog 142 = some 8 := by kernel_rfl
@[go_sem] theorem zeroT_142 : zeroT Try.prog 142 = some [AV.any] := by kernel_rfl
@[go_sem] theorem sizeT_143 : sizeT Try.prog 143 = some 1 := by kernel_rfl
@[go_sem] theorem aggT_143 : aggT Try.prog 143 = some false := by kernel_rfl
@[go_sem] theorem bytesT_143 : bytesT Try.prog 143 = some 8 := by kernel_rfl
@[go_sem] theorem zeroT_143 : zeroT Try.prog 143 = some [AV.any] := by kernel_rfl
@[go_sem] theorem sizeT_144 : sizeT Try.prog 144 = some 1 := by kernel_rfl
@[go_sem] theorem aggT_144 : aggT Try.prog 144 = some false := by kernel_rfl
@[go_sem] theorem bytesT_144 : bytesT Try.prog 144 = some 8 := by kernel_rfl
@[go_sem] theorem zeroT_144 : zeroT Try.prog 144 = some [AV.any] := by kernel_rfl
@[go_sem] theorem sizeT_145 : sizeT Try.prog 145 = some 4 := by kernel_rfl
@[go_sem] theorem aggT_145 : aggT Try.prog 145 = some true := by kernel_rfl
@[go_sem] theorem bytesT_145 : bytesT Try.prog 145 = some 40 := by kernel_rfl
@[go_sem] theorem fieldT_145_0 : fieldT Try.prog 145 0 = some (0, 17) := by kernel_rfl
@[go_sem] theorem fieldT_145_1 : fieldT Try.prog 145 1 = some (1, 17) := by kernel_rfl
@[go_sem] theorem fieldT_145_2 : fieldT Try.prog 145 2 = some (2, 17) := by kernel_rfl
@[go_sem] theorem fieldT_145_3 : fieldT Try.prog 145 3 = some (3, 9) := by kernel_rfl
@[go_sem] theorem placesT_145 : placesT Try.prog 145 = some [(0, 1), (1, 1), (2, 1), (3, 1)] := by kernel_rfl
@[go_sem] theorem sizeT_146 : sizeT Try.prog 146 = some 4 := by kernel_rfl
@[go_sem] theorem aggT_146 : aggT Try.prog 146 = some true := by kernel_rfl
@[go_sem] theorem bytesT_146 : bytesT Try.prog 146 = some 40 := by kernel_rfl
@[go_sem] theorem fieldT_146_0 : fieldT Try.prog 146 0 = some (0, 17) := by kernel_rfl
@[go_sem] theorem fieldT_146_1 : fieldT Try.prog 146 1 = some (1, 17) := by kernel_rfl
@[go_sem] theorem fieldT_146_2 : fieldT Try.prog 146 2 = some (2, 17) := by kernel_rfl
@[go_sem] theorem fieldT_146_3 : fieldT Try.prog 146 3 = some (3, 9) := by kernel_rfl
@[go_sem] theorem placesT_146 : placesT Try.prog 146 = some [(0, 1), (1, 1), (2, 1), (3, 1)] := by kernel_rfl
@[go_sem] theorem sizeT_148 : sizeT Try.prog 148 = some 0 := by kernel_rfl
@[go_sem] theorem aggT_148 : aggT Try.prog 148 = some true := by kernel_rfl
@[go_sem] theorem bytesT_148 : bytesT Try.prog 148 = some 0 := by kernel_rfl
@[go_sem] theorem zeroT_148 : zeroT Try.prog 148 = some [] := by kernel_rfl
@[go_sem] theorem fieldT_148_0 : fieldT Try.prog 148 0 = some (0, 147) := by kernel_rfl
@[go_sem] theorem placesT_148 : placesT Try.prog 148 = some [(0, 0)] := by kernel_rfl
@[go_sem] theorem sizeT_149 : sizeT Try.prog 149 = some 0 := by kernel_rfl
@[go_sem] theorem aggT_149 : aggT Try.prog 149 = some true := by kernel_rfl
@[go_sem] theorem bytesT_149 : bytesT Try.prog 149 = some 0 := by kernel_rfl
@[go_sem] theorem zeroT_149 : zeroT Try.prog 149 = some [] := by kernel_rfl
@[go_sem] theorem fieldT_149_0 : fieldT Try.prog 149 0 = some (0, 147) := by kernel_rfl
@[go_sem] theorem placesT_149 : placesT Try.prog 149 = some [(0, 0)] := by kernel_rfl
@[go_sem] theorem sizeT_150 : sizeT Try.prog 150 = some 1 := by kernel_rfl
@[go_sem] theorem aggT_150 : aggT Try.prog 150 = some false := by kernel_rfl
@[go_sem] theorem bytesT_150 : bytesT Try.prog 150 = some 8 := by kernel_rfl
@[go_sem] theorem zeroT_150 : zeroT Try.prog 150 = some [AV.any] := by kernel_rfl
@[go_sem] theorem sizeT_151 : sizeT Try.prog 151 = some 1 := by kernel_rfl
@[go_sem] theorem aggT_151 : aggT Try.prog 151 = some false := by kernel_rfl
@[go_sem] theorem bytesT_151 : bytesT Try.prog 151 = some 1 := by kernel_rfl
@[go_sem] theorem zeroT_151 : zeroT Try.prog 151 = some [AV.int .u8 (0)] := by kernel_rfl
@[go_sem] theorem intT_151 : intT Try.prog 151 = some .u8 := by kernel_rfl
@[go_sem] theorem sizeT_152 : sizeT Try.prog 152 = some 1 := by kernel_rfl
@[go_sem] theorem aggT_152 : aggT Try.prog 152 = some false := by kernel_rfl
@[go_sem] theorem bytesT_152 : bytesT Try.prog 152 = some 1 := by kernel_rfl
@[go_sem] theorem zeroT_152 : zeroT Try.prog 152 = some [AV.int .u8 (0)] := by kernel_rfl
@[go_sem] theorem intT_152 : intT Try.prog 152 = some .u8 := by kernel_rfl
@[go_sem] theorem sizeT_153 : sizeT Try.prog 153 = some 1 := by kernel_rfl
@[go_sem] theorem aggT_153 : aggT Try.prog 153 = some false := by kernel_rfl
@[go_sem] theorem bytesT_153 : bytesT Try.prog 153 = some 8 := by kernel_rfl
@[go_sem] theorem zeroT_153 : zeroT Try.prog 153 = some [AV.any] := by kernel_rfl
@[go_sem] theorem sizeT_154 : sizeT Try.prog 154 = some 1 := by kernel_rfl
@[go_sem] theorem aggT_154 : aggT Try.prog 154 = some false := by kernel_rfl
@[go_sem] theorem bytesT_154 : bytesT Try.prog 154 = some 8 := by kernel_rfl
@[go_sem] theorem zeroT_154 : zeroT Try.prog 154 = some [AV.any] := by kernel_rfl
@[go_sem] theorem sizeT_155 : sizeT Try.prog 155 = some 1 := by kernel_rfl
@[go_sem] theorem aggT_155 : aggT Try.prog 155 = some false := by kernel_rfl
@[go_sem] theorem bytesT_155 : bytesT Try.prog 155 = some 4 := by kernel_rfl
@[go_sem] theorem zeroT_155 : zeroT Try.prog 155 = some [AV.int .i32 (0)] := by kernel_rfl
@[go_sem] theorem intT_155 : intT Try.prog 155 = some .i32 := by kernel_rfl
@[go_sem] theorem sizeT_156 : sizeT Try.prog 156 = some 1 := by kernel_rfl
@[go_sem] theorem aggT_156 : aggT Try.prog 156 = some false := by kernel_rfl
@[go_sem] theorem bytesT_156 : bytesT Try.prog 156 = some 4 := by kernel_rfl
@[go_sem] theorem zeroT_156 : zeroT Try.prog 156 = some [AV.int .i32 (0)] := by kernel_rfl
@[go_sem] theorem intT_156 : intT Try.prog 156 = some .i32 := by kernel_rfl
@[go_sem] theorem sizeT_157 : sizeT Try.prog 157 = some 11 := by kernel_rfl
@[go_sem] theorem aggT_157 : aggT Try.prog 157 = some true := by kernel_rfl
@[go_sem] theorem bytesT_157 : bytesT Try.prog 157 = some 48 := by kernel_rfl
@[go_sem] theorem fieldT_157_0 : fieldT Try.prog 157 0 = some (0, 12) := by kernel_rfl
@[go_sem] theorem fieldT_157_1 : fieldT Try.prog 157 1 = some (1, 12) := by kernel_rfl
@[go_sem] theorem fieldT_157_2 : fieldT Try.prog 157 2 = some (2, 133) := by kernel_rfl
@[go_sem] theorem fieldT_157_3 : fieldT Try.prog 157 3 = some (3, 151) := by kernel_rfl
@[go_sem] theorem fieldT_157_4 : fieldT Try.prog 157 4 = some (4, 5) := by kernel_rfl
@[go_sem] theorem fieldT_157_5 : fieldT Try.prog 157 5 = some (5, 5) := by kernel_rfl
@[go_sem] theorem fieldT_157_6 : fieldT Try.prog 157 6 = some (6, 152) := by kernel_rfl
@[go_sem] theorem fieldT_157_7 : fieldT Try.prog 157 7 = some (7, 153) := by kernel_rfl
@[go_sem] theorem fieldT_157_8 : fieldT Try.prog 157 8 = some (8, 154) := by kernel_rfl
@[go_sem] theorem fieldT_157_9 : fieldT Try.prog 157 9 = some (9, 155) := by kernel_rfl
@[go_sem] theorem fieldT_157_10 : fieldT Try.prog 157 10 = some (10, 156) := by kernel_rfl
@[go_sem] theorem placesT_157 : placesT Try.prog 157 = some [(0, 1), (1, 1), (2, 1), (3, 1), (4, 1), (5, 1), (6, 1), (7, 1), (8, 1), (9, 1), (10, 1)] := by kernel_rfl
@[go_sem] theorem sizeT_158 : sizeT Try.prog 158 = some 11 := by kernel_rfl
@[go_sem] theorem aggT_158 : aggT Try.prog 158 = some true := by kernel_rfl
@[go_sem] theorem bytesT_158 : bytesT Try.prog 158 = some 48 := by kernel_rfl
@[go_sem] theorem fieldT_158_0 : fieldT Try.prog 158 0 = some (0, 12) := by kernel_rfl
@[go_sem] theorem fieldT_158_1 : fieldT Try.prog 158 1 = some (1, 12) := by kernel_rfl
@[go_sem] theorem fieldT_158_2 : fieldT Try.prog 158 2 = some (2, 133) := by kernel_rfl
@[go_sem] theorem fieldT_158_3 : fieldT Try.prog 158 3 = some (3, 151) := by kernel_rfl
@[go_sem] theorem fieldT_158_4 : fieldT Try.prog 158 4 = some (4, 5) := by kernel_rfl
@[go_sem] theorem fieldT_158_5 : fieldT Try.prog 158 5 = some (5, 5) := by kernel_rfl
@[go_sem] theorem fieldT_158_6 : fieldT Try.prog 158 6 = some (6, 152) := by kernel_rfl
@[go_sem] theorem fieldT_158_7 : fieldT Try.prog 158 7 = some (7, 153) := by kernel_rfl
@[go_sem] theorem fieldT_158_8 : fieldT Try.prog 158 8 = some (8, 154) := by kernel_rfl
@[go_sem] theorem fieldT_158_9 : fieldT Try.prog 158 9 = some (9, 155) := by kernel_rfl
@[go_sem] theorem fieldT_158_10 : fieldT Try.prog 158 10 = some (10, 156) := by kernel_rfl
@[go_sem] theorem placesT_158 : placesT Try.prog 158 = some [(0, 1), (1, 1), (2, 1), (3, 1), (4, 1), (5, 1), (6, 1), (7, 1), (8, 1), (9, 1), (10, 1)] := by kernel_rfl

end Go.Proofs.Ytcmnbfpcomcejaa.Ty
