import Derived.Test.YtnoggcmfnmmjcaaGreatDoorProg
import Derived.KernelRfl
import Derived.Test.YtnoggcmfnmmjcaaGreatDoorT1
import Derived.Test.YtnoggcmfnmmjcaaGreatDoorT4
set_option linter.unusedVariables false
namespace Go.Am
open Go.Proofs
theorem hP : Tryz.prog.follows .mixedOrders = true := by kernel_rfl
@[simp] theorem tag_0 : tag Tryz.prog 0 = some false := by kernel_rfl
@[simp] theorem tsz_0 : tsz Tryz.prog 0 = some 1 := by kernel_rfl
@[simp] theorem byt_0 : byt Tryz.prog 0 = some 0 := by kernel_rfl
@[simp] theorem elt_0 : elt Tryz.prog 0 = none := by kernel_rfl
@[simp] theorem tag_1 : tag Tryz.prog 1 = some false := by kernel_rfl
@[simp] theorem tsz_1 : tsz Tryz.prog 1 = some 1 := by kernel_rfl
@[simp] theorem byt_1 : byt Tryz.prog 1 = some 8 := by kernel_rfl
@[simp] theorem elt_1 : elt Tryz.prog 1 = none := by kernel_rfl
@[simp] theorem zc_1 : zcells Tryz.prog 1 = some [.nilFunc] := by kernel_rfl
@[simp] theorem tag_2 : tag Tryz.prog 2 = some false := by kernel_rfl
@[simp] theorem tsz_2 : tsz Tryz.prog 2 = some 1 := by kernel_rfl
@[simp] theorem byt_2 : byt Tryz.prog 2 = some 8 := by kernel_rfl
@[simp] theorem elt_2 : elt Tryz.prog 2 = none := by kernel_rfl
@[simp] theorem tint_2 : tint Tryz.prog 2 = some .i64 := by kernel_rfl
@[simp] theorem und_2 : Program.underlying Tryz.prog 2 = some (.int .i64) := by kernel_rfl
@[simp] theorem zc_2 : zcells Tryz.prog 2 = some [.int .i64 (0)] := by kernel_rfl
@[simp] theorem tag_3 : tag Tryz.prog 3 = some false := by kernel_rfl
@[simp] theorem tsz_3 : tsz Tryz.prog 3 = some 1 := by kernel_rfl
@[simp] theorem byt_3 : byt Tryz.prog 3 = some 8 := by kernel_rfl
@[simp] theorem elt_3 : elt Tryz.prog 3 = none := by kernel_rfl
@[simp] theorem tint_3 : tint Tryz.prog 3 = some .i64 := by kernel_rfl
@[simp] theorem und_3 : Program.underlying Tryz.prog 3 = some (.int .i64) := by kernel_rfl
@[simp] theorem zc_3 : zcells Tryz.prog 3 = some [.int .i64 (0)] := by kernel_rfl
@[simp] theorem tag_4 : tag Tryz.prog 4 = some false := by kernel_rfl
@[simp] theorem tsz_4 : tsz Tryz.prog 4 = some 1 := by kernel_rfl
@[simp] theorem byt_4 : byt Tryz.prog 4 = some 1 := by kernel_rfl
@[simp] theorem elt_4 : elt Tryz.prog 4 = none := by kernel_rfl
@[simp] theorem isBool_4 : isBool Tryz.prog 4 = true := by kernel_rfl
@[simp] theorem zc_4 : zcells Tryz.prog 4 = some [.bool false] := by kernel_rfl
@[simp] theorem tag_5 : tag Tryz.prog 5 = some false := by kernel_rfl
@[simp] theorem tsz_5 : tsz Tryz.prog 5 = some 1 := by kernel_rfl
@[simp] theorem byt_5 : byt Tryz.prog 5 = some 1 := by kernel_rfl
@[simp] theorem elt_5 : elt Tryz.prog 5 = none := by kernel_rfl
@[simp] theorem tint_5 : tint Tryz.prog 5 = some .u8 := by kernel_rfl
@[simp] theorem und_5 : Program.underlying Tryz.prog 5 = some (.int .u8) := by kernel_rfl
@[simp] theorem zc_5 : zcells Tryz.prog 5 = some [.int .u8 (0)] := by kernel_rfl
@[simp] theorem tag_6 : tag Tryz.prog 6 = some false := by kernel_rfl
@[simp] theorem tsz_6 : tsz Tryz.prog 6 = some 1 := by kernel_rfl
@[simp] theorem byt_6 : byt Tryz.prog 6 = some 1 := by kernel_rfl
@[simp] theorem elt_6 : elt Tryz.prog 6 = none := by kernel_rfl
@[simp] theorem tint_6 : tint Tryz.prog 6 = some .u8 := by kernel_rfl
@[simp] theorem und_6 : Program.underlying Tryz.prog 6 = some (.int .u8) := by kernel_rfl
@[simp] theorem zc_6 : zcells Tryz.prog 6 = some [.int .u8 (0)] := by kernel_rfl
@[simp] theorem tag_7 : tag Tryz.prog 7 = some true := by kernel_rfl
@[simp] theorem tsz_7 : tsz Tryz.prog 7 = some 4 := by kernel_rfl
@[simp] theorem byt_7 : byt Tryz.prog 7 = some 24 := by kernel_rfl
@[simp] theorem elt_7 : elt Tryz.prog 7 = none := by kernel_rfl
@[simp] theorem foff_7_0 : foff Tryz.prog 7 0 = some (0, 1) := by kernel_rfl
@[simp] theorem foff_7_1 : foff Tryz.prog 7 1 = some (1, 1) := by kernel_rfl
@[simp] theorem foff_7_2 : foff Tryz.prog 7 2 = some (2, 1) := by kernel_rfl
@[simp] theorem foff_7_3 : foff Tryz.prog 7 3 = some (3, 1) := by kernel_rfl
@[simp] theorem places_7 : places Tryz.prog 7 = some [(0, 1), (1, 1), (2, 1), (3, 1)] := by kernel_rfl
@[simp] theorem eqg_7 : Program.eqGuardType Tryz.prog Tryz.prog.depth 7 = false := by kernel_rfl
@[simp] theorem eqT_7 (x0 y0 : Int) (x1 y1 : Int) (x2 y2 : Bool) (x3 y3 : Int) : eqT Tryz.prog 10 7 (.agg [.im (.sc (.int .i64 x0)), .im (.sc (.int .i64 x1)), .im (.sc (.bool x2)), .im (.sc (.int .u8 x3))]) (.agg [.im (.sc (.int .i64 y0)), .im (.sc (.int .i64 y1)), .im (.sc (.bool y2)), .im (.sc (.int .u8 y3))]) = some ((x0 == y0) && ((x1 == y1) && ((x2 == y2) && ((x3 == y3) && true)))) := by kernel_rfl
@[simp] theorem zc_7 : zcells Tryz.prog 7 = some [.int .i64 (0), .int .i64 (0), .bool false, .int .u8 (0)] := by kernel_rfl
@[simp] theorem tag_8 : tag Tryz.prog 8 = some true := by kernel_rfl
@[simp] theorem tsz_8 : tsz Tryz.prog 8 = some 4 := by kernel_rfl
@[simp] theorem byt_8 : byt Tryz.prog 8 = some 24 := by kernel_rfl
@[simp] theorem elt_8 : elt Tryz.prog 8 = none := by kernel_rfl
@[simp] theorem foff_8_0 : foff Tryz.prog 8 0 = some (0, 1) := by kernel_rfl
@[simp] theorem foff_8_1 : foff Tryz.prog 8 1 = some (1, 1) := by kernel_rfl
@[simp] theorem foff_8_2 : foff Tryz.prog 8 2 = some (2, 1) := by kernel_rfl
@[simp] theorem foff_8_3 : foff Tryz.prog 8 3 = some (3, 1) := by kernel_rfl
@[simp] theorem places_8 : places Tryz.prog 8 = some [(0, 1), (1, 1), (2, 1), (3, 1)] := by kernel_rfl
@[simp] theorem eqg_8 : Program.eqGuardType Tryz.prog Tryz.prog.depth 8 = false := by kernel_rfl
@[simp] theorem eqT_8 (x0 y0 : Int) (x1 y1 : Int) (x2 y2 : Bool) (x3 y3 : Int) : eqT Tryz.prog 10 8 (.agg [.im (.sc (.int .i64 x0)), .im (.sc (.int .i64 x1)), .im (.sc (.bool x2)), .im (.sc (.int .u8 x3))]) (.agg [.im (.sc (.int .i64 y0)), .im (.sc (.int .i64 y1)), .im (.sc (.bool y2)), .im (.sc (.int .u8 y3))]) = some ((x0 == y0) && ((x1 == y1) && ((x2 == y2) && ((x3 == y3) && true)))) := by kernel_rfl
@[simp] theorem zc_8 : zcells Tryz.prog 8 = some [.int .i64 (0), .int .i64 (0), .bool false, .int .u8 (0)] := by kernel_rfl
@[simp] theorem tag_9 : tag Tryz.prog 9 = some false := by kernel_rfl
@[simp] theorem tsz_9 : tsz Tryz.prog 9 = some 1 := by kernel_rfl
@[simp] theorem byt_9 : byt Tryz.prog 9 = some 16 := by kernel_rfl
@[simp] theorem elt_9 : elt Tryz.prog 9 = none := by kernel_rfl
@[simp] theorem isStr_9 : isStr Tryz.prog 9 = true := by kernel_rfl
@[simp] theorem zc_9 : zcells Tryz.prog 9 = some [.string ByteArray.empty] := by kernel_rfl
@[simp] theorem tag_10 : tag Tryz.prog 10 = some false := by kernel_rfl
@[simp] theorem tsz_10 : tsz Tryz.prog 10 = some 1 := by kernel_rfl
@[simp] theorem byt_10 : byt Tryz.prog 10 = some 16 := by kernel_rfl
@[simp] theorem elt_10 : elt Tryz.prog 10 = none := by kernel_rfl
@[simp] theorem isStr_10 : isStr Tryz.prog 10 = true := by kernel_rfl
@[simp] theorem zc_10 : zcells Tryz.prog 10 = some [.string ByteArray.empty] := by kernel_rfl
@[simp] theorem tag_11 : tag Tryz.prog 11 = some false := by kernel_rfl
@[simp] theorem tsz_11 : tsz Tryz.prog 11 = some 1 := by kernel_rfl
@[simp] theorem byt_11 : byt Tryz.prog 11 = some 16 := by kernel_rfl
@[simp] theorem elt_11 : elt Tryz.prog 11 = none := by kernel_rfl
@[simp] theorem isStr_11 : isStr Tryz.prog 11 = true := by kernel_rfl
@[simp] theorem zc_11 : zcells Tryz.prog 11 = some [.string ByteArray.empty] := by kernel_rfl
@[simp] theorem tag_12 : tag Tryz.prog 12 = some false := by kernel_rfl
@[simp] theorem tsz_12 : tsz Tryz.prog 12 = some 1 := by kernel_rfl
@[simp] theorem byt_12 : byt Tryz.prog 12 = some 8 := by kernel_rfl
@[simp] theorem elt_12 : elt Tryz.prog 12 = none := by kernel_rfl
@[simp] theorem tint_12 : tint Tryz.prog 12 = some .u64 := by kernel_rfl
@[simp] theorem und_12 : Program.underlying Tryz.prog 12 = some (.int .u64) := by kernel_rfl
@[simp] theorem zc_12 : zcells Tryz.prog 12 = some [.int .u64 (0)] := by kernel_rfl
@[simp] theorem tag_13 : tag Tryz.prog 13 = some true := by kernel_rfl
@[simp] theorem tsz_13 : tsz Tryz.prog 13 = some 2 := by kernel_rfl
@[simp] theorem byt_13 : byt Tryz.prog 13 = some 24 := by kernel_rfl
@[simp] theorem elt_13 : elt Tryz.prog 13 = none := by kernel_rfl
@[simp] theorem foff_13_0 : foff Tryz.prog 13 0 = some (0, 1) := by kernel_rfl
@[simp] theorem foff_13_1 : foff Tryz.prog 13 1 = some (1, 1) := by kernel_rfl
@[simp] theorem places_13 : places Tryz.prog 13 = some [(0, 1), (1, 1)] := by kernel_rfl
@[simp] theorem zc_13 : zcells Tryz.prog 13 = some [.string ByteArray.empty, .int .u64 (0)] := by kernel_rfl
@[simp] theorem tag_14 : tag Tryz.prog 14 = some true := by kernel_rfl
@[simp] theorem tsz_14 : tsz Tryz.prog 14 = some 2 := by kernel_rfl
@[simp] theorem byt_14 : byt Tryz.prog 14 = some 24 := by kernel_rfl
@[simp] theorem elt_14 : elt Tryz.prog 14 = none := by kernel_rfl
@[simp] theorem foff_14_0 : foff Tryz.prog 14 0 = some (0, 1) := by kernel_rfl
@[simp] theorem foff_14_1 : foff Tryz.prog 14 1 = some (1, 1) := by kernel_rfl
@[simp] theorem places_14 : places Tryz.prog 14 = some [(0, 1), (1, 1)] := by kernel_rfl
@[simp] theorem zc_14 : zcells Tryz.prog 14 = some [.string ByteArray.empty, .int .u64 (0)] := by kernel_rfl
@[simp] theorem tag_15 : tag Tryz.prog 15 = some false := by kernel_rfl
@[simp] theorem tsz_15 : tsz Tryz.prog 15 = some 1 := by kernel_rfl
@[simp] theorem byt_15 : byt Tryz.prog 15 = some 8 := by kernel_rfl
@[simp] theorem elt_15 : elt Tryz.prog 15 = none := by kernel_rfl
@[simp] theorem isPtr_15 : isPtr Tryz.prog 15 = true := by kernel_rfl
@[simp] theorem zc_15 : zcells Tryz.prog 15 = some [.pointer none] := by kernel_rfl
@[simp] theorem tag_16 : tag Tryz.prog 16 = some false := by kernel_rfl
@[simp] theorem tsz_16 : tsz Tryz.prog 16 = some 1 := by kernel_rfl
@[simp] theorem byt_16 : byt Tryz.prog 16 = some 8 := by kernel_rfl
@[simp] theorem elt_16 : elt Tryz.prog 16 = none := by kernel_rfl
@[simp] theorem isPtr_16 : isPtr Tryz.prog 16 = true := by kernel_rfl
@[simp] theorem zc_16 : zcells Tryz.prog 16 = some [.pointer none] := by kernel_rfl
@[simp] theorem tag_17 : tag Tryz.prog 17 = some false := by kernel_rfl
@[simp] theorem tsz_17 : tsz Tryz.prog 17 = some 1 := by kernel_rfl
@[simp] theorem byt_17 : byt Tryz.prog 17 = some 8 := by kernel_rfl
@[simp] theorem elt_17 : elt Tryz.prog 17 = none := by kernel_rfl
@[simp] theorem isPtr_17 : isPtr Tryz.prog 17 = true := by kernel_rfl
@[simp] theorem zc_17 : zcells Tryz.prog 17 = some [.pointer none] := by kernel_rfl
@[simp] theorem tag_18 : tag Tryz.prog 18 = some true := by kernel_rfl
@[simp] theorem tsz_18 : tsz Tryz.prog 18 = some 1 := by kernel_rfl
@[simp] theorem byt_18 : byt Tryz.prog 18 = some 8 := by kernel_rfl
@[simp] theorem elt_18 : elt Tryz.prog 18 = none := by kernel_rfl
@[simp] theorem foff_18_0 : foff Tryz.prog 18 0 = some (0, 1) := by kernel_rfl
@[simp] theorem places_18 : places Tryz.prog 18 = some [(0, 1)] := by kernel_rfl
@[simp] theorem zc_18 : zcells Tryz.prog 18 = some [.pointer none] := by kernel_rfl
@[simp] theorem tag_19 : tag Tryz.prog 19 = some true := by kernel_rfl
@[simp] theorem tsz_19 : tsz Tryz.prog 19 = some 1 := by kernel_rfl
@[simp] theorem byt_19 : byt Tryz.prog 19 = some 8 := by kernel_rfl
@[simp] theorem elt_19 : elt Tryz.prog 19 = none := by kernel_rfl
@[simp] theorem foff_19_0 : foff Tryz.prog 19 0 = some (0, 1) := by kernel_rfl
@[simp] theorem places_19 : places Tryz.prog 19 = some [(0, 1)] := by kernel_rfl
@[simp] theorem zc_19 : zcells Tryz.prog 19 = some [.pointer none] := by kernel_rfl
@[simp] theorem tag_20 : tag Tryz.prog 20 = some false := by kernel_rfl
@[simp] theorem tsz_20 : tsz Tryz.prog 20 = some 1 := by kernel_rfl
@[simp] theorem byt_20 : byt Tryz.prog 20 = some 16 := by kernel_rfl
@[simp] theorem elt_20 : elt Tryz.prog 20 = none := by kernel_rfl
@[simp] theorem zc_20 : zcells Tryz.prog 20 = some [.nilIface] := by kernel_rfl
@[simp] theorem tag_21 : tag Tryz.prog 21 = some false := by kernel_rfl
@[simp] theorem tsz_21 : tsz Tryz.prog 21 = some 1 := by kernel_rfl
@[simp] theorem byt_21 : byt Tryz.prog 21 = some 4 := by kernel_rfl
@[simp] theorem elt_21 : elt Tryz.prog 21 = none := by kernel_rfl
@[simp] theorem tint_21 : tint Tryz.prog 21 = some .i32 := by kernel_rfl
@[simp] theorem und_21 : Program.underlying Tryz.prog 21 = some (.int .i32) := by kernel_rfl
@[simp] theorem zc_21 : zcells Tryz.prog 21 = some [.int .i32 (0)] := by kernel_rfl
@[simp] theorem tag_22 : tag Tryz.prog 22 = some false := by kernel_rfl
@[simp] theorem tsz_22 : tsz Tryz.prog 22 = some 1 := by kernel_rfl
@[simp] theorem byt_22 : byt Tryz.prog 22 = some 24 := by kernel_rfl
@[simp] theorem elt_22 : elt Tryz.prog 22 = some 57 := by kernel_rfl
@[simp] theorem zc_22 : zcells Tryz.prog 22 = some [.slice none 0 0] := by kernel_rfl
@[simp] theorem tag_23 : tag Tryz.prog 23 = some false := by kernel_rfl
@[simp] theorem tsz_23 : tsz Tryz.prog 23 = some 1 := by kernel_rfl
@[simp] theorem byt_23 : byt Tryz.prog 23 = some 24 := by kernel_rfl
@[simp] theorem elt_23 : elt Tryz.prog 23 = some 45 := by kernel_rfl
@[simp] theorem zc_23 : zcells Tryz.prog 23 = some [.slice none 0 0] := by kernel_rfl
@[simp] theorem tag_24 : tag Tryz.prog 24 = some true := by kernel_rfl
@[simp] theorem tsz_24 : tsz Tryz.prog 24 = some 2 := by kernel_rfl
@[simp] theorem byt_24 : byt Tryz.prog 24 = some 48 := by kernel_rfl
@[simp] theorem elt_24 : elt Tryz.prog 24 = none := by kernel_rfl
@[simp] theorem foff_24_0 : foff Tryz.prog 24 0 = some (0, 1) := by kernel_rfl
@[simp] theorem foff_24_1 : foff Tryz.prog 24 1 = some (1, 1) := by kernel_rfl
@[simp] theorem places_24 : places Tryz.prog 24 = some [(0, 1), (1, 1)] := by kernel_rfl
@[simp] theorem zc_24 : zcells Tryz.prog 24 = some [.slice none 0 0, .slice none 0 0] := by kernel_rfl
@[simp] theorem tag_25 : tag Tryz.prog 25 = some true := by kernel_rfl
@[simp] theorem tsz_25 : tsz Tryz.prog 25 = some 2 := by kernel_rfl
@[simp] theorem byt_25 : byt Tryz.prog 25 = some 48 := by kernel_rfl
@[simp] theorem elt_25 : elt Tryz.prog 25 = none := by kernel_rfl
@[simp] theorem foff_25_0 : foff Tryz.prog 25 0 = some (0, 1) := by kernel_rfl
@[simp] theorem foff_25_1 : foff Tryz.prog 25 1 = some (1, 1) := by kernel_rfl
@[simp] theorem places_25 : places Tryz.prog 25 = some [(0, 1), (1, 1)] := by kernel_rfl
@[simp] theorem zc_25 : zcells Tryz.prog 25 = some [.slice none 0 0, .slice none 0 0] := by kernel_rfl
@[simp] theorem tag_26 : tag Tryz.prog 26 = some false := by kernel_rfl
@[simp] theorem tsz_26 : tsz Tryz.prog 26 = some 1 := by kernel_rfl
@[simp] theorem byt_26 : byt Tryz.prog 26 = some 8 := by kernel_rfl
@[simp] theorem elt_26 : elt Tryz.prog 26 = none := by kernel_rfl
@[simp] theorem tint_26 : tint Tryz.prog 26 = some .u64 := by kernel_rfl
@[simp] theorem und_26 : Program.underlying Tryz.prog 26 = some (.int .u64) := by kernel_rfl
@[simp] theorem zc_26 : zcells Tryz.prog 26 = some [.int .u64 (0)] := by kernel_rfl
@[simp] theorem tag_27 : tag Tryz.prog 27 = some true := by kernel_rfl
@[simp] theorem tsz_27 : tsz Tryz.prog 27 = some 2 := by kernel_rfl
@[simp] theorem byt_27 : byt Tryz.prog 27 = some 16 := by kernel_rfl
@[simp] theorem elt_27 : elt Tryz.prog 27 = none := by kernel_rfl
@[simp] theorem foff_27_0 : foff Tryz.prog 27 0 = some (0, 1) := by kernel_rfl
@[simp] theorem foff_27_1 : foff Tryz.prog 27 1 = some (1, 1) := by kernel_rfl
@[simp] theorem places_27 : places Tryz.prog 27 = some [(0, 1), (1, 1)] := by kernel_rfl
@[simp] theorem eqg_27 : Program.eqGuardType Tryz.prog Tryz.prog.depth 27 = false := by kernel_rfl
@[simp] theorem eqT_27 (x0 y0 : Int) (x1 y1 : Int) : eqT Tryz.prog 10 27 (.agg [.im (.sc (.int .u64 x0)), .im (.sc (.int .u64 x1))]) (.agg [.im (.sc (.int .u64 y0)), .im (.sc (.int .u64 y1))]) = some ((x0 == y0) && ((x1 == y1) && true)) := by kernel_rfl
@[simp] theorem zc_27 : zcells Tryz.prog 27 = some [.int .u64 (0), .int .u64 (0)] := by kernel_rfl
@[simp] theorem tag_28 : tag Tryz.prog 28 = some true := by kernel_rfl
@[simp] theorem tsz_28 : tsz Tryz.prog 28 = some 2 := by kernel_rfl
@[simp] theorem byt_28 : byt Tryz.prog 28 = some 16 := by kernel_rfl
@[simp] theorem elt_28 : elt Tryz.prog 28 = none := by kernel_rfl
@[simp] theorem foff_28_0 : foff Tryz.prog 28 0 = some (0, 1) := by kernel_rfl
@[simp] theorem foff_28_1 : foff Tryz.prog 28 1 = some (1, 1) := by kernel_rfl
@[simp] theorem places_28 : places Tryz.prog 28 = some [(0, 1), (1, 1)] := by kernel_rfl
@[simp] theorem eqg_28 : Program.eqGuardType Tryz.prog Tryz.prog.depth 28 = false := by kernel_rfl
@[simp] theorem eqT_28 (x0 y0 : Int) (x1 y1 : Int) : eqT Tryz.prog 10 28 (.agg [.im (.sc (.int .u64 x0)), .im (.sc (.int .u64 x1))]) (.agg [.im (.sc (.int .u64 y0)), .im (.sc (.int .u64 y1))]) = some ((x0 == y0) && ((x1 == y1) && true)) := by kernel_rfl
@[simp] theorem zc_28 : zcells Tryz.prog 28 = some [.int .u64 (0), .int .u64 (0)] := by kernel_rfl
@[simp] theorem tag_29 : tag Tryz.prog 29 = some false := by kernel_rfl
@[simp] theorem tsz_29 : tsz Tryz.prog 29 = some 1 := by kernel_rfl
@[simp] theorem byt_29 : byt Tryz.prog 29 = some 8 := by kernel_rfl
@[simp] theorem elt_29 : elt Tryz.prog 29 = none := by kernel_rfl
@[simp] theorem zc_29 : zcells Tryz.prog 29 = some [.nilFunc] := by kernel_rfl
@[simp] theorem tag_30 : tag Tryz.prog 30 = some false := by kernel_rfl
@[simp] theorem tsz_30 : tsz Tryz.prog 30 = some 1 := by kernel_rfl
@[simp] theorem byt_30 : byt Tryz.prog 30 = some 24 := by kernel_rfl
@[simp] theorem elt_30 : elt Tryz.prog 30 = some 38 := by kernel_rfl
@[simp] theorem zc_30 : zcells Tryz.prog 30 = some [.slice none 0 0] := by kernel_rfl
@[simp] theorem tag_31 : tag Tryz.prog 31 = some false := by kernel_rfl
@[simp] theorem tsz_31 : tsz Tryz.prog 31 = some 1 := by kernel_rfl
@[simp] theorem byt_31 : byt Tryz.prog 31 = some 8 := by kernel_rfl
@[simp] theorem elt_31 : elt Tryz.prog 31 = none := by kernel_rfl
@[simp] theorem tint_31 : tint Tryz.prog 31 = some .i64 := by kernel_rfl
@[simp] theorem und_31 : Program.underlying Tryz.prog 31 = some (.int .i64) := by kernel_rfl
@[simp] theorem zc_31 : zcells Tryz.prog 31 = some [.int .i64 (0)] := by kernel_rfl
@[simp] theorem tag_32 : tag Tryz.prog 32 = some false := by kernel_rfl
@[simp] theorem tsz_32 : tsz Tryz.prog 32 = some 1 := by kernel_rfl
@[simp] theorem byt_32 : byt Tryz.prog 32 = some 0 := by kernel_rfl
@[simp] theorem elt_32 : elt Tryz.prog 32 = none := by kernel_rfl
@[simp] theorem tag_33 : tag Tryz.prog 33 = some false := by kernel_rfl
@[simp] theorem tsz_33 : tsz Tryz.prog 33 = some 1 := by kernel_rfl
@[simp] theorem byt_33 : byt Tryz.prog 33 = some 8 := by kernel_rfl
@[simp] theorem elt_33 : elt Tryz.prog 33 = none := by kernel_rfl
@[simp] theorem zc_33 : zcells Tryz.prog 33 = some [.nilFunc] := by kernel_rfl
@[simp] theorem tag_34 : tag Tryz.prog 34 = some false := by kernel_rfl
@[simp] theorem tsz_34 : tsz Tryz.prog 34 = some 1 := by kernel_rfl
@[simp] theorem byt_34 : byt Tryz.prog 34 = some 1 := by kernel_rfl
@[simp] theorem elt_34 : elt Tryz.prog 34 = none := by kernel_rfl
@[simp] theorem tint_34 : tint Tryz.prog 34 = some .u8 := by kernel_rfl
@[simp] theorem und_34 : Program.underlying Tryz.prog 34 = some (.int .u8) := by kernel_rfl
@[simp] theorem zc_34 : zcells Tryz.prog 34 = some [.int .u8 (0)] := by kernel_rfl
@[simp] theorem tag_35 : tag Tryz.prog 35 = some true := by kernel_rfl
@[simp] theorem tsz_35 : tsz Tryz.prog 35 = some 2 := by kernel_rfl
@[simp] theorem byt_35 : byt Tryz.prog 35 = some 16 := by kernel_rfl
@[simp] theorem elt_35 : elt Tryz.prog 35 = none := by kernel_rfl
@[simp] theorem foff_35_0 : foff Tryz.prog 35 0 = some (0, 1) := by kernel_rfl
@[simp] theorem foff_35_1 : foff Tryz.prog 35 1 = some (1, 1) := by kernel_rfl
@[simp] theorem places_35 : places Tryz.prog 35 = some [(0, 1), (1, 1)] := by kernel_rfl
@[simp] theorem eqg_35 : Program.eqGuardType Tryz.prog Tryz.prog.depth 35 = false := by kernel_rfl
@[simp] theorem eqT_35 (x0 y0 : Int) (x1 y1 : Int) : eqT Tryz.prog 10 35 (.agg [.im (.sc (.int .u8 x0)), .im (.sc (.int .i64 x1))]) (.agg [.im (.sc (.int .u8 y0)), .im (.sc (.int .i64 y1))]) = some ((x0 == y0) && ((x1 == y1) && true)) := by kernel_rfl
@[simp] theorem zc_35 : zcells Tryz.prog 35 = some [.int .u8 (0), .int .i64 (0)] := by kernel_rfl
@[simp] theorem tag_36 : tag Tryz.prog 36 = some true := by kernel_rfl
@[simp] theorem tsz_36 : tsz Tryz.prog 36 = some 2 := by kernel_rfl
@[simp] theorem byt_36 : byt Tryz.prog 36 = some 16 := by kernel_rfl
@[simp] theorem elt_36 : elt Tryz.prog 36 = none := by kernel_rfl
@[simp] theorem foff_36_0 : foff Tryz.prog 36 0 = some (0, 1) := by kernel_rfl
@[simp] theorem foff_36_1 : foff Tryz.prog 36 1 = some (1, 1) := by kernel_rfl
@[simp] theorem places_36 : places Tryz.prog 36 = some [(0, 1), (1, 1)] := by kernel_rfl
@[simp] theorem eqg_36 : Program.eqGuardType Tryz.prog Tryz.prog.depth 36 = false := by kernel_rfl
@[simp] theorem eqT_36 (x0 y0 : Int) (x1 y1 : Int) : eqT Tryz.prog 10 36 (.agg [.im (.sc (.int .u8 x0)), .im (.sc (.int .i64 x1))]) (.agg [.im (.sc (.int .u8 y0)), .im (.sc (.int .i64 y1))]) = some ((x0 == y0) && ((x1 == y1) && true)) := by kernel_rfl
@[simp] theorem zc_36 : zcells Tryz.prog 36 = some [.int .u8 (0), .int .i64 (0)] := by kernel_rfl
@[simp] theorem tag_37 : tag Tryz.prog 37 = some true := by kernel_rfl
@[simp] theorem tsz_37 : tsz Tryz.prog 37 = some 3 := by kernel_rfl
@[simp] theorem byt_37 : byt Tryz.prog 37 = some 24 := by kernel_rfl
@[simp] theorem elt_37 : elt Tryz.prog 37 = none := by kernel_rfl
@[simp] theorem foff_37_0 : foff Tryz.prog 37 0 = some (0, 1) := by kernel_rfl
@[simp] theorem foff_37_1 : foff Tryz.prog 37 1 = some (1, 2) := by kernel_rfl
@[simp] theorem places_37 : places Tryz.prog 37 = some [(0, 1), (1, 2)] := by kernel_rfl
@[simp] theorem eqg_37 : Program.eqGuardType Tryz.prog Tryz.prog.depth 37 = false := by kernel_rfl
@[simp] theorem eqT_37 (x0 y0 : Int) (x1 y1 : Int) (x2 y2 : Int) : eqT Tryz.prog 10 37 (.agg [.im (.sc (.int .i64 x0)), .im (.sc (.int .u8 x1)), .im (.sc (.int .i64 x2))]) (.agg [.im (.sc (.int .i64 y0)), .im (.sc (.int .u8 y1)), .im (.sc (.int .i64 y2))]) = some ((x0 == y0) && (((x1 == y1) && ((x2 == y2) && true)) && true)) := by kernel_rfl
@[simp] theorem zc_37 : zcells Tryz.prog 37 = some [.int .i64 (0), .int .u8 (0), .int .i64 (0)] := by kernel_rfl
@[simp] theorem tag_38 : tag Tryz.prog 38 = some true := by kernel_rfl
@[simp] theorem tsz_38 : tsz Tryz.prog 38 = some 3 := by kernel_rfl
@[simp] theorem byt_38 : byt Tryz.prog 38 = some 24 := by kernel_rfl
@[simp] theorem elt_38 : elt Tryz.prog 38 = none := by kernel_rfl
@[simp] theorem foff_38_0 : foff Tryz.prog 38 0 = some (0, 1) := by kernel_rfl
@[simp] theorem foff_38_1 : foff Tryz.prog 38 1 = some (1, 2) := by kernel_rfl
@[simp] theorem places_38 : places Tryz.prog 38 = some [(0, 1), (1, 2)] := by kernel_rfl
@[simp] theorem eqg_38 : Program.eqGuardType Tryz.prog Tryz.prog.depth 38 = false := by kernel_rfl
@[simp] theorem eqT_38 (x0 y0 : Int) (x1 y1 : Int) (x2 y2 : Int) : eqT Tryz.prog 10 38 (.agg [.im (.sc (.int .i64 x0)), .im (.sc (.int .u8 x1)), .im (.sc (.int .i64 x2))]) (.agg [.im (.sc (.int .i64 y0)), .im (.sc (.int .u8 y1)), .im (.sc (.int .i64 y2))]) = some ((x0 == y0) && (((x1 == y1) && ((x2 == y2) && true)) && true)) := by kernel_rfl
@[simp] theorem zc_38 : zcells Tryz.prog 38 = some [.int .i64 (0), .int .u8 (0), .int .i64 (0)] := by kernel_rfl
@[simp] theorem tag_39 : tag Tryz.prog 39 = some false := by kernel_rfl
@[simp] theorem tsz_39 : tsz Tryz.prog 39 = some 1 := by kernel_rfl
@[simp] theorem byt_39 : byt Tryz.prog 39 = some 24 := by kernel_rfl
@[simp] theorem elt_39 : elt Tryz.prog 39 = some 3 := by kernel_rfl
@[simp] theorem zc_39 : zcells Tryz.prog 39 = some [.slice none 0 0] := by kernel_rfl
@[simp] theorem tag_40 : tag Tryz.prog 40 = some false := by kernel_rfl
@[simp] theorem tsz_40 : tsz Tryz.prog 40 = some 1 := by kernel_rfl
@[simp] theorem byt_40 : byt Tryz.prog 40 = some 0 := by kernel_rfl
@[simp] theorem elt_40 : elt Tryz.prog 40 = none := by kernel_rfl
@[simp] theorem tag_41 : tag Tryz.prog 41 = some false := by kernel_rfl
@[simp] theorem tsz_41 : tsz Tryz.prog 41 = some 1 := by kernel_rfl
@[simp] theorem byt_41 : byt Tryz.prog 41 = some 8 := by kernel_rfl
@[simp] theorem elt_41 : elt Tryz.prog 41 = none := by kernel_rfl
@[simp] theorem zc_41 : zcells Tryz.prog 41 = some [.nilFunc] := by kernel_rfl
@[simp] theorem tag_42 : tag Tryz.prog 42 = some false := by kernel_rfl
@[simp] theorem tsz_42 : tsz Tryz.prog 42 = some 1 := by kernel_rfl
@[simp] theorem byt_42 : byt Tryz.prog 42 = some 24 := by kernel_rfl
@[simp] theorem elt_42 : elt Tryz.prog 42 = some 84 := by kernel_rfl
@[simp] theorem zc_42 : zcells Tryz.prog 42 = some [.slice none 0 0] := by kernel_rfl
@[simp] theorem tag_43 : tag Tryz.prog 43 = some false := by kernel_rfl
@[simp] theorem tsz_43 : tsz Tryz.prog 43 = some 1 := by kernel_rfl
@[simp] theorem byt_43 : byt Tryz.prog 43 = some 24 := by kernel_rfl
@[simp] theorem elt_43 : elt Tryz.prog 43 = some 86 := by kernel_rfl
@[simp] theorem zc_43 : zcells Tryz.prog 43 = some [.slice none 0 0] := by kernel_rfl
@[simp] theorem tag_44 : tag Tryz.prog 44 = some true := by kernel_rfl
@[simp] theorem tsz_44 : tsz Tryz.prog 44 = some 4 := by kernel_rfl
@[simp] theorem byt_44 : byt Tryz.prog 44 = some 64 := by kernel_rfl
@[simp] theorem elt_44 : elt Tryz.prog 44 = none := by kernel_rfl
@[simp] theorem foff_44_0 : foff Tryz.prog 44 0 = some (0, 1) := by kernel_rfl
@[simp] theorem foff_44_1 : foff Tryz.prog 44 1 = some (1, 1) := by kernel_rfl
@[simp] theorem foff_44_2 : foff Tryz.prog 44 2 = some (2, 1) := by kernel_rfl
@[simp] theorem foff_44_3 : foff Tryz.prog 44 3 = some (3, 1) := by kernel_rfl
@[simp] theorem places_44 : places Tryz.prog 44 = some [(0, 1), (1, 1), (2, 1), (3, 1)] := by kernel_rfl
@[simp] theorem zc_44 : zcells Tryz.prog 44 = some [.int .i64 (0), .bool false, .slice none 0 0, .slice none 0 0] := by kernel_rfl
@[simp] theorem tag_45 : tag Tryz.prog 45 = some true := by kernel_rfl
@[simp] theorem tsz_45 : tsz Tryz.prog 45 = some 4 := by kernel_rfl
@[simp] theorem byt_45 : byt Tryz.prog 45 = some 64 := by kernel_rfl
@[simp] theorem elt_45 : elt Tryz.prog 45 = none := by kernel_rfl
@[simp] theorem foff_45_0 : foff Tryz.prog 45 0 = some (0, 1) := by kernel_rfl
@[simp] theorem foff_45_1 : foff Tryz.prog 45 1 = some (1, 1) := by kernel_rfl
@[simp] theorem foff_45_2 : foff Tryz.prog 45 2 = some (2, 1) := by kernel_rfl
@[simp] theorem foff_45_3 : foff Tryz.prog 45 3 = some (3, 1) := by kernel_rfl
@[simp] theorem places_45 : places Tryz.prog 45 = some [(0, 1), (1, 1), (2, 1), (3, 1)] := by kernel_rfl
@[simp] theorem zc_45 : zcells Tryz.prog 45 = some [.int .i64 (0), .bool false, .slice none 0 0, .slice none 0 0] := by kernel_rfl
@[simp] theorem tag_46 : tag Tryz.prog 46 = some false := by kernel_rfl
@[simp] theorem tsz_46 : tsz Tryz.prog 46 = some 1 := by kernel_rfl
@[simp] theorem byt_46 : byt Tryz.prog 46 = some 8 := by kernel_rfl
@[simp] theorem elt_46 : elt Tryz.prog 46 = none := by kernel_rfl
@[simp] theorem zc_46 : zcells Tryz.prog 46 = some [.nilFunc] := by kernel_rfl
@[simp] theorem tag_47 : tag Tryz.prog 47 = some false := by kernel_rfl
@[simp] theorem tsz_47 : tsz Tryz.prog 47 = some 1 := by kernel_rfl
@[simp] theorem byt_47 : byt Tryz.prog 47 = some 24 := by kernel_rfl
@[simp] theorem elt_47 : elt Tryz.prog 47 = some 39 := by kernel_rfl
@[simp] theorem zc_47 : zcells Tryz.prog 47 = some [.slice none 0 0] := by kernel_rfl
@[simp] theorem tag_48 : tag Tryz.prog 48 = some false := by kernel_rfl
@[simp] theorem tsz_48 : tsz Tryz.prog 48 = some 1 := by kernel_rfl
@[simp] theorem byt_48 : byt Tryz.prog 48 = some 0 := by kernel_rfl
@[simp] theorem elt_48 : elt Tryz.prog 48 = none := by kernel_rfl
@[simp] theorem tag_49 : tag Tryz.prog 49 = some false := by kernel_rfl
@[simp] theorem tsz_49 : tsz Tryz.prog 49 = some 1 := by kernel_rfl
@[simp] theorem byt_49 : byt Tryz.prog 49 = some 8 := by kernel_rfl
@[simp] theorem elt_49 : elt Tryz.prog 49 = none := by kernel_rfl
@[simp] theorem zc_49 : zcells Tryz.prog 49 = some [.nilFunc] := by kernel_rfl
@[simp] theorem tag_50 : tag Tryz.prog 50 = some false := by kernel_rfl
@[simp] theorem tsz_50 : tsz Tryz.prog 50 = some 1 := by kernel_rfl
@[simp] theorem byt_50 : byt Tryz.prog 50 = some 1 := by kernel_rfl
@[simp] theorem elt_50 : elt Tryz.prog 50 = none := by kernel_rfl
@[simp] theorem tint_50 : tint Tryz.prog 50 = some .u8 := by kernel_rfl
@[simp] theorem und_50 : Program.underlying Tryz.prog 50 = some (.int .u8) := by kernel_rfl
@[simp] theorem zc_50 : zcells Tryz.prog 50 = some [.int .u8 (0)] := by kernel_rfl
@[simp] theorem tag_51 : tag Tryz.prog 51 = some true := by kernel_rfl
@[simp] theorem tsz_51 : tsz Tryz.prog 51 = some 2 := by kernel_rfl
@[simp] theorem byt_51 : byt Tryz.prog 51 = some 16 := by kernel_rfl
@[simp] theorem elt_51 : elt Tryz.prog 51 = none := by kernel_rfl
@[simp] theorem foff_51_0 : foff Tryz.prog 51 0 = some (0, 1) := by kernel_rfl
@[simp] theorem foff_51_1 : foff Tryz.prog 51 1 = some (1, 1) := by kernel_rfl
@[simp] theorem places_51 : places Tryz.prog 51 = some [(0, 1), (1, 1)] := by kernel_rfl
@[simp] theorem eqg_51 : Program.eqGuardType Tryz.prog Tryz.prog.depth 51 = false := by kernel_rfl
@[simp] theorem eqT_51 (x0 y0 : Int) (x1 y1 : Int) : eqT Tryz.prog 10 51 (.agg [.im (.sc (.int .u8 x0)), .im (.sc (.int .i64 x1))]) (.agg [.im (.sc (.int .u8 y0)), .im (.sc (.int .i64 y1))]) = some ((x0 == y0) && ((x1 == y1) && true)) := by kernel_rfl
@[simp] theorem zc_51 : zcells Tryz.prog 51 = some [.int .u8 (0), .int .i64 (0)] := by kernel_rfl
@[simp] theorem tag_52 : tag Tryz.prog 52 = some true := by kernel_rfl
@[simp] theorem tsz_52 : tsz Tryz.prog 52 = some 2 := by kernel_rfl
@[simp] theorem byt_52 : byt Tryz.prog 52 = some 16 := by kernel_rfl
@[simp] theorem elt_52 : elt Tryz.prog 52 = none := by kernel_rfl
@[simp] theorem foff_52_0 : foff Tryz.prog 52 0 = some (0, 1) := by kernel_rfl
@[simp] theorem foff_52_1 : foff Tryz.prog 52 1 = some (1, 1) := by kernel_rfl
@[simp] theorem places_52 : places Tryz.prog 52 = some [(0, 1), (1, 1)] := by kernel_rfl
@[simp] theorem eqg_52 : Program.eqGuardType Tryz.prog Tryz.prog.depth 52 = false := by kernel_rfl
@[simp] theorem eqT_52 (x0 y0 : Int) (x1 y1 : Int) : eqT Tryz.prog 10 52 (.agg [.im (.sc (.int .u8 x0)), .im (.sc (.int .i64 x1))]) (.agg [.im (.sc (.int .u8 y0)), .im (.sc (.int .i64 y1))]) = some ((x0 == y0) && ((x1 == y1) && true)) := by kernel_rfl
@[simp] theorem zc_52 : zcells Tryz.prog 52 = some [.int .u8 (0), .int .i64 (0)] := by kernel_rfl
@[simp] theorem tag_53 : tag Tryz.prog 53 = some false := by kernel_rfl
@[simp] theorem tsz_53 : tsz Tryz.prog 53 = some 1 := by kernel_rfl
@[simp] theorem byt_53 : byt Tryz.prog 53 = some 0 := by kernel_rfl
@[simp] theorem elt_53 : elt Tryz.prog 53 = none := by kernel_rfl
@[simp] theorem tag_54 : tag Tryz.prog 54 = some false := by kernel_rfl
@[simp] theorem tsz_54 : tsz Tryz.prog 54 = some 1 := by kernel_rfl
@[simp] theorem byt_54 : byt Tryz.prog 54 = some 8 := by kernel_rfl
@[simp] theorem elt_54 : elt Tryz.prog 54 = none := by kernel_rfl
@[simp] theorem zc_54 : zcells Tryz.prog 54 = some [.nilFunc] := by kernel_rfl
@[simp] theorem tag_55 : tag Tryz.prog 55 = some false := by kernel_rfl
@[simp] theorem tsz_55 : tsz Tryz.prog 55 = some 1 := by kernel_rfl
@[simp] theorem byt_55 : byt Tryz.prog 55 = some 8 := by kernel_rfl
@[simp] theorem elt_55 : elt Tryz.prog 55 = none := by kernel_rfl
@[simp] theorem zc_55 : zcells Tryz.prog 55 = some [.nilFunc] := by kernel_rfl
@[simp] theorem tag_56 : tag Tryz.prog 56 = some true := by kernel_rfl
@[simp] theorem tsz_56 : tsz Tryz.prog 56 = some 4 := by kernel_rfl
@[simp] theorem byt_56 : byt Tryz.prog 56 = some 32 := by kernel_rfl
@[simp] theorem elt_56 : elt Tryz.prog 56 = none := by kernel_rfl
@[simp] theorem foff_56_0 : foff Tryz.prog 56 0 = some (0, 1) := by kernel_rfl
@[simp] theorem foff_56_1 : foff Tryz.prog 56 1 = some (1, 1) := by kernel_rfl
@[simp] theorem foff_56_2 : foff Tryz.prog 56 2 = some (2, 1) := by kernel_rfl
@[simp] theorem foff_56_3 : foff Tryz.prog 56 3 = some (3, 1) := by kernel_rfl
@[simp] theorem places_56 : places Tryz.prog 56 = some [(0, 1), (1, 1), (2, 1), (3, 1)] := by kernel_rfl
@[simp] theorem eqg_56 : Program.eqGuardType Tryz.prog Tryz.prog.depth 56 = false := by kernel_rfl
@[simp] theorem eqT_56 (x0 y0 : Int) (x1 y1 : Int) (x2 y2 : Int) (x3 y3 : Bool) : eqT Tryz.prog 10 56 (.agg [.im (.sc (.int .i64 x0)), .im (.sc (.int .u64 x1)), .im (.sc (.int .i64 x2)), .im (.sc (.bool x3))]) (.agg [.im (.sc (.int .i64 y0)), .im (.sc (.int .u64 y1)), .im (.sc (.int .i64 y2)), .im (.sc (.bool y3))]) = some ((x0 == y0) && ((x1 == y1) && ((x2 == y2) && ((x3 == y3) && true)))) := by kernel_rfl
@[simp] theorem zc_56 : zcells Tryz.prog 56 = some [.int .i64 (0), .int .u64 (0), .int .i64 (0), .bool false] := by kernel_rfl
@[simp] theorem tag_57 : tag Tryz.prog 57 = some true := by kernel_rfl
@[simp] theorem tsz_57 : tsz Tryz.prog 57 = some 4 := by kernel_rfl
@[simp] theorem byt_57 : byt Tryz.prog 57 = some 32 := by kernel_rfl
@[simp] theorem elt_57 : elt Tryz.prog 57 = none := by kernel_rfl
@[simp] theorem foff_57_0 : foff Tryz.prog 57 0 = some (0, 1) := by kernel_rfl
@[simp] theorem foff_57_1 : foff Tryz.prog 57 1 = some (1, 1) := by kernel_rfl
@[simp] theorem foff_57_2 : foff Tryz.prog 57 2 = some (2, 1) := by kernel_rfl
@[simp] theorem foff_57_3 : foff Tryz.prog 57 3 = some (3, 1) := by kernel_rfl
@[simp] theorem places_57 : places Tryz.prog 57 = some [(0, 1), (1, 1), (2, 1), (3, 1)] := by kernel_rfl
@[simp] theorem eqg_57 : Program.eqGuardType Tryz.prog Tryz.prog.depth 57 = false := by kernel_rfl
@[simp] theorem eqT_57 (x0 y0 : Int) (x1 y1 : Int) (x2 y2 : Int) (x3 y3 : Bool) : eqT Tryz.prog 10 57 (.agg [.im (.sc (.int .i64 x0)), .im (.sc (.int .u64 x1)), .im (.sc (.int .i64 x2)), .im (.sc (.bool x3))]) (.agg [.im (.sc (.int .i64 y0)), .im (.sc (.int .u64 y1)), .im (.sc (.int .i64 y2)), .im (.sc (.bool y3))]) = some ((x0 == y0) && ((x1 == y1) && ((x2 == y2) && ((x3 == y3) && true)))) := by kernel_rfl
@[simp] theorem zc_57 : zcells Tryz.prog 57 = some [.int .i64 (0), .int .u64 (0), .int .i64 (0), .bool false] := by kernel_rfl
@[simp] theorem tag_58 : tag Tryz.prog 58 = some false := by kernel_rfl
@[simp] theorem tsz_58 : tsz Tryz.prog 58 = some 1 := by kernel_rfl
@[simp] theorem byt_58 : byt Tryz.prog 58 = some 8 := by kernel_rfl
@[simp] theorem elt_58 : elt Tryz.prog 58 = none := by kernel_rfl
@[simp] theorem zc_58 : zcells Tryz.prog 58 = some [.nilFunc] := by kernel_rfl
@[simp] theorem tag_59 : tag Tryz.prog 59 = some false := by kernel_rfl
@[simp] theorem tsz_59 : tsz Tryz.prog 59 = some 1 := by kernel_rfl
@[simp] theorem byt_59 : byt Tryz.prog 59 = some 8 := by kernel_rfl
@[simp] theorem elt_59 : elt Tryz.prog 59 = none := by kernel_rfl
@[simp] theorem zc_59 : zcells Tryz.prog 59 = some [.nilFunc] := by kernel_rfl
@[simp] theorem tag_60 : tag Tryz.prog 60 = some false := by kernel_rfl
@[simp] theorem tsz_60 : tsz Tryz.prog 60 = some 1 := by kernel_rfl
@[simp] theorem byt_60 : byt Tryz.prog 60 = some 8 := by kernel_rfl
@[simp] theorem elt_60 : elt Tryz.prog 60 = none := by kernel_rfl
@[simp] theorem zc_60 : zcells Tryz.prog 60 = some [.nilFunc] := by kernel_rfl
@[simp] theorem tag_61 : tag Tryz.prog 61 = some false := by kernel_rfl
@[simp] theorem tsz_61 : tsz Tryz.prog 61 = some 1 := by kernel_rfl
@[simp] theorem byt_61 : byt Tryz.prog 61 = some 8 := by kernel_rfl
@[simp] theorem elt_61 : elt Tryz.prog 61 = none := by kernel_rfl
@[simp] theorem zc_61 : zcells Tryz.prog 61 = some [.nilFunc] := by kernel_rfl
@[simp] theorem tag_62 : tag Tryz.prog 62 = some false := by kernel_rfl
@[simp] theorem tsz_62 : tsz Tryz.prog 62 = some 1 := by kernel_rfl
@[simp] theorem byt_62 : byt Tryz.prog 62 = some 8 := by kernel_rfl
@[simp] theorem elt_62 : elt Tryz.prog 62 = none := by kernel_rfl
@[simp] theorem isPtr_62 : isPtr Tryz.prog 62 = true := by kernel_rfl
@[simp] theorem zc_62 : zcells Tryz.prog 62 = some [.pointer none] := by kernel_rfl
@[simp] theorem tag_63 : tag Tryz.prog 63 = some false := by kernel_rfl
@[simp] theorem tsz_63 : tsz Tryz.prog 63 = some 1 := by kernel_rfl
@[simp] theorem byt_63 : byt Tryz.prog 63 = some 8 := by kernel_rfl
@[simp] theorem elt_63 : elt Tryz.prog 63 = none := by kernel_rfl
@[simp] theorem zc_63 : zcells Tryz.prog 63 = some [.nilFunc] := by kernel_rfl
@[simp] theorem tag_64 : tag Tryz.prog 64 = some false := by kernel_rfl
@[simp] theorem tsz_64 : tsz Tryz.prog 64 = some 1 := by kernel_rfl
@[simp] theorem byt_64 : byt Tryz.prog 64 = some 8 := by kernel_rfl
@[simp] theorem elt_64 : elt Tryz.prog 64 = none := by kernel_rfl
@[simp] theorem mpOf_64 : mpOf Tryz.prog 64 = some (.i64, 52) := by kernel_rfl
@[simp] theorem zav_52_64 : zav Tryz.prog 52 = some (.agg [.im (.sc (.int .u8 (0))), .im (.sc (.int .i64 (0)))]) := by kernel_rfl
@[simp] theorem zc_64 : zcells Tryz.prog 64 = some [.map none] := by kernel_rfl
@[simp] theorem tag_65 : tag Tryz.prog 65 = some false := by kernel_rfl
@[simp] theorem tsz_65 : tsz Tryz.prog 65 = some 1 := by kernel_rfl
@[simp] theorem byt_65 : byt Tryz.prog 65 = some 8 := by kernel_rfl
@[simp] theorem elt_65 : elt Tryz.prog 65 = none := by kernel_rfl
@[simp] theorem mpOf_65 : mpOf Tryz.prog 65 = some (.i64, 36) := by kernel_rfl
@[simp] theorem zav_36_65 : zav Tryz.prog 36 = some (.agg [.im (.sc (.int .u8 (0))), .im (.sc (.int .i64 (0)))]) := by kernel_rfl
@[simp] theorem zc_65 : zcells Tryz.prog 65 = some [.map none] := by kernel_rfl
@[simp] theorem tag_66 : tag Tryz.prog 66 = some true := by kernel_rfl
@[simp] theorem tsz_66 : tsz Tryz.prog 66 = some 3 := by kernel_rfl
@[simp] theorem byt_66 : byt Tryz.prog 66 = some 40 := by kernel_rfl
@[simp] theorem elt_66 : elt Tryz.prog 66 = none := by kernel_rfl
@[simp] theorem foff_66_0 : foff Tryz.prog 66 0 = some (0, 1) := by kernel_rfl
@[simp] theorem foff_66_1 : foff Tryz.prog 66 1 = some (1, 1) := by kernel_rfl
@[simp] theorem foff_66_2 : foff Tryz.prog 66 2 = some (2, 1) := by kernel_rfl
@[simp] theorem places_66 : places Tryz.prog 66 = some [(0, 1), (1, 1), (2, 1)] := by kernel_rfl
@[simp] theorem zc_66 : zcells Tryz.prog 66 = some [.map none, .map none, .slice none 0 0] := by kernel_rfl
@[simp] theorem tag_67 : tag Tryz.prog 67 = some true := by kernel_rfl
@[simp] theorem tsz_67 : tsz Tryz.prog 67 = some 3 := by kernel_rfl
@[simp] theorem byt_67 : byt Tryz.prog 67 = some 40 := by kernel_rfl
@[simp] theorem elt_67 : elt Tryz.prog 67 = none := by kernel_rfl
@[simp] theorem foff_67_0 : foff Tryz.prog 67 0 = some (0, 1) := by kernel_rfl
@[simp] theorem foff_67_1 : foff Tryz.prog 67 1 = some (1, 1) := by kernel_rfl
@[simp] theorem foff_67_2 : foff Tryz.prog 67 2 = some (2, 1) := by kernel_rfl
@[simp] theorem places_67 : places Tryz.prog 67 = some [(0, 1), (1, 1), (2, 1)] := by kernel_rfl
@[simp] theorem zc_67 : zcells Tryz.prog 67 = some [.map none, .map none, .slice none 0 0] := by kernel_rfl
@[simp] theorem tag_68 : tag Tryz.prog 68 = some false := by kernel_rfl
@[simp] theorem tsz_68 : tsz Tryz.prog 68 = some 1 := by kernel_rfl
@[simp] theorem byt_68 : byt Tryz.prog 68 = some 8 := by kernel_rfl
@[simp] theorem elt_68 : elt Tryz.prog 68 = none := by kernel_rfl
@[simp] theorem isPtr_68 : isPtr Tryz.prog 68 = true := by kernel_rfl
@[simp] theorem zc_68 : zcells Tryz.prog 68 = some [.pointer none] := by kernel_rfl
@[simp] theorem tag_69 : tag Tryz.prog 69 = some false := by kernel_rfl
@[simp] theorem tsz_69 : tsz Tryz.prog 69 = some 1 := by kernel_rfl
@[simp] theorem byt_69 : byt Tryz.prog 69 = some 0 := by kernel_rfl
@[simp] theorem elt_69 : elt Tryz.prog 69 = none := by kernel_rfl
@[simp] theorem tag_70 : tag Tryz.prog 70 = some false := by kernel_rfl
@[simp] theorem tsz_70 : tsz Tryz.prog 70 = some 1 := by kernel_rfl
@[simp] theorem byt_70 : byt Tryz.prog 70 = some 8 := by kernel_rfl
@[simp] theorem elt_70 : elt Tryz.prog 70 = none := by kernel_rfl
@[simp] theorem zc_70 : zcells Tryz.prog 70 = some [.nilFunc] := by kernel_rfl
@[simp] theorem tag_71 : tag Tryz.prog 71 = some false := by kernel_rfl
@[simp] theorem tsz_71 : tsz Tryz.prog 71 = some 1 := by kernel_rfl
@[simp] theorem byt_71 : byt Tryz.prog 71 = some 0 := by kernel_rfl
@[simp] theorem elt_71 : elt Tryz.prog 71 = none := by kernel_rfl
@[simp] theorem tag_72 : tag Tryz.prog 72 = some false := by kernel_rfl
@[simp] theorem tsz_72 : tsz Tryz.prog 72 = some 1 := by kernel_rfl
@[simp] theorem byt_72 : byt Tryz.prog 72 = some 8 := by kernel_rfl
@[simp] theorem elt_72 : elt Tryz.prog 72 = none := by kernel_rfl
@[simp] theorem zc_72 : zcells Tryz.prog 72 = some [.nilFunc] := by kernel_rfl
@[simp] theorem tag_73 : tag Tryz.prog 73 = some false := by kernel_rfl
@[simp] theorem tsz_73 : tsz Tryz.prog 73 = some 1 := by kernel_rfl
@[simp] theorem byt_73 : byt Tryz.prog 73 = some 8 := by kernel_rfl
@[simp] theorem elt_73 : elt Tryz.prog 73 = none := by kernel_rfl
@[simp] theorem zc_73 : zcells Tryz.prog 73 = some [.nilFunc] := by kernel_rfl
@[simp] theorem tag_74 : tag Tryz.prog 74 = some false := by kernel_rfl
@[simp] theorem tsz_74 : tsz Tryz.prog 74 = some 1 := by kernel_rfl
@[simp] theorem byt_74 : byt Tryz.prog 74 = some 8 := by kernel_rfl
@[simp] theorem elt_74 : elt Tryz.prog 74 = none := by kernel_rfl
@[simp] theorem zc_74 : zcells Tryz.prog 74 = some [.nilFunc] := by kernel_rfl
@[simp] theorem tag_75 : tag Tryz.prog 75 = some false := by kernel_rfl
@[simp] theorem tsz_75 : tsz Tryz.prog 75 = some 1 := by kernel_rfl
@[simp] theorem byt_75 : byt Tryz.prog 75 = some 8 := by kernel_rfl
@[simp] theorem elt_75 : elt Tryz.prog 75 = none := by kernel_rfl
@[simp] theorem zc_75 : zcells Tryz.prog 75 = some [.nilFunc] := by kernel_rfl
@[simp] theorem tag_76 : tag Tryz.prog 76 = some false := by kernel_rfl
@[simp] theorem tsz_76 : tsz Tryz.prog 76 = some 1 := by kernel_rfl
@[simp] theorem byt_76 : byt Tryz.prog 76 = some 8 := by kernel_rfl
@[simp] theorem elt_76 : elt Tryz.prog 76 = none := by kernel_rfl
@[simp] theorem zc_76 : zcells Tryz.prog 76 = some [.nilFunc] := by kernel_rfl
@[simp] theorem tag_77 : tag Tryz.prog 77 = some false := by kernel_rfl
@[simp] theorem tsz_77 : tsz Tryz.prog 77 = some 1 := by kernel_rfl
@[simp] theorem byt_77 : byt Tryz.prog 77 = some 8 := by kernel_rfl
@[simp] theorem elt_77 : elt Tryz.prog 77 = none := by kernel_rfl
@[simp] theorem zc_77 : zcells Tryz.prog 77 = some [.nilFunc] := by kernel_rfl
@[simp] theorem tag_78 : tag Tryz.prog 78 = some false := by kernel_rfl
@[simp] theorem tsz_78 : tsz Tryz.prog 78 = some 1 := by kernel_rfl
@[simp] theorem byt_78 : byt Tryz.prog 78 = some 1 := by kernel_rfl
@[simp] theorem elt_78 : elt Tryz.prog 78 = none := by kernel_rfl
@[simp] theorem tint_78 : tint Tryz.prog 78 = some .u8 := by kernel_rfl
@[simp] theorem und_78 : Program.underlying Tryz.prog 78 = some (.int .u8) := by kernel_rfl
@[simp] theorem zc_78 : zcells Tryz.prog 78 = some [.int .u8 (0)] := by kernel_rfl
@[simp] theorem tag_79 : tag Tryz.prog 79 = some true := by kernel_rfl
@[simp] theorem tsz_79 : tsz Tryz.prog 79 = some 2 := by kernel_rfl
@[simp] theorem byt_79 : byt Tryz.prog 79 = some 16 := by kernel_rfl
@[simp] theorem elt_79 : elt Tryz.prog 79 = none := by kernel_rfl
@[simp] theorem foff_79_0 : foff Tryz.prog 79 0 = some (0, 1) := by kernel_rfl
@[simp] theorem foff_79_1 : foff Tryz.prog 79 1 = some (1, 1) := by kernel_rfl
@[simp] theorem places_79 : places Tryz.prog 79 = some [(0, 1), (1, 1)] := by kernel_rfl
@[simp] theorem eqg_79 : Program.eqGuardType Tryz.prog Tryz.prog.depth 79 = false := by kernel_rfl
@[simp] theorem eqT_79 (x0 y0 : Int) (x1 y1 : Int) : eqT Tryz.prog 10 79 (.agg [.im (.sc (.int .u8 x0)), .im (.sc (.int .i64 x1))]) (.agg [.im (.sc (.int .u8 y0)), .im (.sc (.int .i64 y1))]) = some ((x0 == y0) && ((x1 == y1) && true)) := by kernel_rfl
@[simp] theorem zc_79 : zcells Tryz.prog 79 = some [.int .u8 (0), .int .i64 (0)] := by kernel_rfl
@[simp] theorem tag_80 : tag Tryz.prog 80 = some true := by kernel_rfl
@[simp] theorem tsz_80 : tsz Tryz.prog 80 = some 2 := by kernel_rfl
@[simp] theorem byt_80 : byt Tryz.prog 80 = some 16 := by kernel_rfl
@[simp] theorem elt_80 : elt Tryz.prog 80 = none := by kernel_rfl
@[simp] theorem foff_80_0 : foff Tryz.prog 80 0 = some (0, 1) := by kernel_rfl
@[simp] theorem foff_80_1 : foff Tryz.prog 80 1 = some (1, 1) := by kernel_rfl
@[simp] theorem places_80 : places Tryz.prog 80 = some [(0, 1), (1, 1)] := by kernel_rfl
@[simp] theorem eqg_80 : Program.eqGuardType Tryz.prog Tryz.prog.depth 80 = false := by kernel_rfl
@[simp] theorem eqT_80 (x0 y0 : Int) (x1 y1 : Int) : eqT Tryz.prog 10 80 (.agg [.im (.sc (.int .u8 x0)), .im (.sc (.int .i64 x1))]) (.agg [.im (.sc (.int .u8 y0)), .im (.sc (.int .i64 y1))]) = some ((x0 == y0) && ((x1 == y1) && true)) := by kernel_rfl
@[simp] theorem zc_80 : zcells Tryz.prog 80 = some [.int .u8 (0), .int .i64 (0)] := by kernel_rfl
@[simp] theorem tag_81 : tag Tryz.prog 81 = some true := by kernel_rfl
@[simp] theorem tsz_81 : tsz Tryz.prog 81 = some 4 := by kernel_rfl
@[simp] theorem byt_81 : byt Tryz.prog 81 = some 32 := by kernel_rfl
@[simp] theorem elt_81 : elt Tryz.prog 81 = none := by kernel_rfl
@[simp] theorem foff_81_0 : foff Tryz.prog 81 0 = some (0, 1) := by kernel_rfl
@[simp] theorem foff_81_1 : foff Tryz.prog 81 1 = some (1, 2) := by kernel_rfl
@[simp] theorem foff_81_2 : foff Tryz.prog 81 2 = some (3, 1) := by kernel_rfl
@[simp] theorem places_81 : places Tryz.prog 81 = some [(0, 1), (1, 2), (3, 1)] := by kernel_rfl
@[simp] theorem eqg_81 : Program.eqGuardType Tryz.prog Tryz.prog.depth 81 = false := by kernel_rfl
@[simp] theorem eqT_81 (x0 y0 : Bool) (x1 y1 : Int) (x2 y2 : Int) (x3 y3 : Int) : eqT Tryz.prog 10 81 (.agg [.im (.sc (.bool x0)), .im (.sc (.int .u64 x1)), .im (.sc (.int .u64 x2)), .im (.sc (.int .i64 x3))]) (.agg [.im (.sc (.bool y0)), .im (.sc (.int .u64 y1)), .im (.sc (.int .u64 y2)), .im (.sc (.int .i64 y3))]) = some ((x0 == y0) && (((x1 == y1) && ((x2 == y2) && true)) && ((x3 == y3) && true))) := by kernel_rfl
@[simp] theorem zc_81 : zcells Tryz.prog 81 = some [.bool false, .int .u64 (0), .int .u64 (0), .int .i64 (0)] := by kernel_rfl
@[simp] theorem tag_82 : tag Tryz.prog 82 = some true := by kernel_rfl
@[simp] theorem tsz_82 : tsz Tryz.prog 82 = some 4 := by kernel_rfl
@[simp] theorem byt_82 : byt Tryz.prog 82 = some 32 := by kernel_rfl
@[simp] theorem elt_82 : elt Tryz.prog 82 = none := by kernel_rfl
@[simp] theorem foff_82_0 : foff Tryz.prog 82 0 = some (0, 1) := by kernel_rfl
@[simp] theorem foff_82_1 : foff Tryz.prog 82 1 = some (1, 2) := by kernel_rfl
@[simp] theorem foff_82_2 : foff Tryz.prog 82 2 = some (3, 1) := by kernel_rfl
@[simp] theorem places_82 : places Tryz.prog 82 = some [(0, 1), (1, 2), (3, 1)] := by kernel_rfl
@[simp] theorem eqg_82 : Program.eqGuardType Tryz.prog Tryz.prog.depth 82 = false := by kernel_rfl
@[simp] theorem eqT_82 (x0 y0 : Bool) (x1 y1 : Int) (x2 y2 : Int) (x3 y3 : Int) : eqT Tryz.prog 10 82 (.agg [.im (.sc (.bool x0)), .im (.sc (.int .u64 x1)), .im (.sc (.int .u64 x2)), .im (.sc (.int .i64 x3))]) (.agg [.im (.sc (.bool y0)), .im (.sc (.int .u64 y1)), .im (.sc (.int .u64 y2)), .im (.sc (.int .i64 y3))]) = some ((x0 == y0) && (((x1 == y1) && ((x2 == y2) && true)) && ((x3 == y3) && true))) := by kernel_rfl
@[simp] theorem zc_82 : zcells Tryz.prog 82 = some [.bool false, .int .u64 (0), .int .u64 (0), .int .i64 (0)] := by kernel_rfl
@[simp] theorem tag_83 : tag Tryz.prog 83 = some true := by kernel_rfl
@[simp] theorem tsz_83 : tsz Tryz.prog 83 = some 6 := by kernel_rfl
@[simp] theorem byt_83 : byt Tryz.prog 83 = some 48 := by kernel_rfl
@[simp] theorem elt_83 : elt Tryz.prog 83 = none := by kernel_rfl
@[simp] theorem foff_83_0 : foff Tryz.prog 83 0 = some (0, 4) := by kernel_rfl
@[simp] theorem foff_83_1 : foff Tryz.prog 83 1 = some (4, 2) := by kernel_rfl
@[simp] theorem places_83 : places Tryz.prog 83 = some [(0, 4), (4, 2)] := by kernel_rfl
@[simp] theorem eqg_83 : Program.eqGuardType Tryz.prog Tryz.prog.depth 83 = false := by kernel_rfl
@[simp] theorem eqT_83 (x0 y0 : Bool) (x1 y1 : Int) (x2 y2 : Int) (x3 y3 : Int) (x4 y4 : Int) (x5 y5 : Int) : eqT Tryz.prog 10 83 (.agg [.im (.sc (.bool x0)), .im (.sc (.int .u64 x1)), .im (.sc (.int .u64 x2)), .im (.sc (.int .i64 x3)), .im (.sc (.int .u8 x4)), .im (.sc (.int .i64 x5))]) (.agg [.im (.sc (.bool y0)), .im (.sc (.int .u64 y1)), .im (.sc (.int .u64 y2)), .im (.sc (.int .i64 y3)), .im (.sc (.int .u8 y4)), .im (.sc (.int .i64 y5))]) = some (((x0 == y0) && (((x1 == y1) && ((x2 == y2) && true)) && ((x3 == y3) && true))) && (((x4 == y4) && ((x5 == y5) && true)) && true)) := by kernel_rfl
@[simp] theorem zc_83 : zcells Tryz.prog 83 = some [.bool false, .int .u64 (0), .int .u64 (0), .int .i64 (0), .int .u8 (0), .int .i64 (0)] := by kernel_rfl
@[simp] theorem tag_84 : tag Tryz.prog 84 = some true := by kernel_rfl
@[simp] theorem tsz_84 : tsz Tryz.prog 84 = some 6 := by kernel_rfl
@[simp] theorem byt_84 : byt Tryz.prog 84 = some 48 := by kernel_rfl
@[simp] theorem elt_84 : elt Tryz.prog 84 = none := by kernel_rfl
@[simp] theorem foff_84_0 : foff Tryz.prog 84 0 = some (0, 4) := by kernel_rfl
@[simp] theorem foff_84_1 : foff Tryz.prog 84 1 = some (4, 2) := by kernel_rfl
@[simp] theorem places_84 : places Tryz.prog 84 = some [(0, 4), (4, 2)] := by kernel_rfl
@[simp] theorem eqg_84 : Program.eqGuardType Tryz.prog Tryz.prog.depth 84 = false := by kernel_rfl
@[simp] theorem eqT_84 (x0 y0 : Bool) (x1 y1 : Int) (x2 y2 : Int) (x3 y3 : Int) (x4 y4 : Int) (x5 y5 : Int) : eqT Tryz.prog 10 84 (.agg [.im (.sc (.bool x0)), .im (.sc (.int .u64 x1)), .im (.sc (.int .u64 x2)), .im (.sc (.int .i64 x3)), .im (.sc (.int .u8 x4)), .im (.sc (.int .i64 x5))]) (.agg [.im (.sc (.bool y0)), .im (.sc (.int .u64 y1)), .im (.sc (.int .u64 y2)), .im (.sc (.int .i64 y3)), .im (.sc (.int .u8 y4)), .im (.sc (.int .i64 y5))]) = some (((x0 == y0) && (((x1 == y1) && ((x2 == y2) && true)) && ((x3 == y3) && true))) && (((x4 == y4) && ((x5 == y5) && true)) && true)) := by kernel_rfl
@[simp] theorem zc_84 : zcells Tryz.prog 84 = some [.bool false, .int .u64 (0), .int .u64 (0), .int .i64 (0), .int .u8 (0), .int .i64 (0)] := by kernel_rfl
@[simp] theorem tag_85 : tag Tryz.prog 85 = some true := by kernel_rfl
@[simp] theorem tsz_85 : tsz Tryz.prog 85 = some 2 := by kernel_rfl
@[simp] theorem byt_85 : byt Tryz.prog 85 = some 16 := by kernel_rfl
@[simp] theorem elt_85 : elt Tryz.prog 85 = none := by kernel_rfl
@[simp] theorem foff_85_0 : foff Tryz.prog 85 0 = some (0, 1) := by kernel_rfl
@[simp] theorem foff_85_1 : foff Tryz.prog 85 1 = some (1, 1) := by kernel_rfl
@[simp] theorem places_85 : places Tryz.prog 85 = some [(0, 1), (1, 1)] := by kernel_rfl
@[simp] theorem eqg_85 : Program.eqGuardType Tryz.prog Tryz.prog.depth 85 = false := by kernel_rfl
@[simp] theorem eqT_85 (x0 y0 : Int) (x1 y1 : Int) : eqT Tryz.prog 10 85 (.agg [.im (.sc (.int .i64 x0)), .im (.sc (.int .i64 x1))]) (.agg [.im (.sc (.int .i64 y0)), .im (.sc (.int .i64 y1))]) = some ((x0 == y0) && ((x1 == y1) && true)) := by kernel_rfl
@[simp] theorem zc_85 : zcells Tryz.prog 85 = some [.int .i64 (0), .int .i64 (0)] := by kernel_rfl
@[simp] theorem tag_86 : tag Tryz.prog 86 = some true := by kernel_rfl
@[simp] theorem tsz_86 : tsz Tryz.prog 86 = some 2 := by kernel_rfl
@[simp] theorem byt_86 : byt Tryz.prog 86 = some 16 := by kernel_rfl
@[simp] theorem elt_86 : elt Tryz.prog 86 = none := by kernel_rfl
@[simp] theorem foff_86_0 : foff Tryz.prog 86 0 = some (0, 1) := by kernel_rfl
@[simp] theorem foff_86_1 : foff Tryz.prog 86 1 = some (1, 1) := by kernel_rfl
@[simp] theorem places_86 : places Tryz.prog 86 = some [(0, 1), (1, 1)] := by kernel_rfl
@[simp] theorem eqg_86 : Program.eqGuardType Tryz.prog Tryz.prog.depth 86 = false := by kernel_rfl
@[simp] theorem eqT_86 (x0 y0 : Int) (x1 y1 : Int) : eqT Tryz.prog 10 86 (.agg [.im (.sc (.int .i64 x0)), .im (.sc (.int .i64 x1))]) (.agg [.im (.sc (.int .i64 y0)), .im (.sc (.int .i64 y1))]) = some ((x0 == y0) && ((x1 == y1) && true)) := by kernel_rfl
@[simp] theorem zc_86 : zcells Tryz.prog 86 = some [.int .i64 (0), .int .i64 (0)] := by kernel_rfl
@[simp] theorem tag_87 : tag Tryz.prog 87 = some false := by kernel_rfl
@[simp] theorem tsz_87 : tsz Tryz.prog 87 = some 1 := by kernel_rfl
@[simp] theorem byt_87 : byt Tryz.prog 87 = some 8 := by kernel_rfl
@[simp] theorem elt_87 : elt Tryz.prog 87 = none := by kernel_rfl
@[simp] theorem zc_87 : zcells Tryz.prog 87 = some [.nilFunc] := by kernel_rfl
@[simp] theorem tag_88 : tag Tryz.prog 88 = some false := by kernel_rfl
@[simp] theorem tsz_88 : tsz Tryz.prog 88 = some 1 := by kernel_rfl
@[simp] theorem byt_88 : byt Tryz.prog 88 = some 8 := by kernel_rfl
@[simp] theorem elt_88 : elt Tryz.prog 88 = none := by kernel_rfl
@[simp] theorem mpOf_88 : mpOf Tryz.prog 88 = some (.i64, 4) := by kernel_rfl
@[simp] theorem zav_4_88 : zav Tryz.prog 4 = some (.im (.sc (.bool false))) := by kernel_rfl
@[simp] theorem zc_88 : zcells Tryz.prog 88 = some [.map none] := by kernel_rfl
@[simp] theorem tag_89 : tag Tryz.prog 89 = some false := by kernel_rfl
@[simp] theorem tsz_89 : tsz Tryz.prog 89 = some 1 := by kernel_rfl
@[simp] theorem byt_89 : byt Tryz.prog 89 = some 0 := by kernel_rfl
@[simp] theorem elt_89 : elt Tryz.prog 89 = none := by kernel_rfl
@[simp] theorem tag_90 : tag Tryz.prog 90 = some false := by kernel_rfl
@[simp] theorem tsz_90 : tsz Tryz.prog 90 = some 1 := by kernel_rfl
@[simp] theorem byt_90 : byt Tryz.prog 90 = some 8 := by kernel_rfl
@[simp] theorem elt_90 : elt Tryz.prog 90 = none := by kernel_rfl
@[simp] theorem zc_90 : zcells Tryz.prog 90 = some [.nilFunc] := by kernel_rfl
@[simp] theorem tag_91 : tag Tryz.prog 91 = some false := by kernel_rfl
@[simp] theorem tsz_91 : tsz Tryz.prog 91 = some 1 := by kernel_rfl
@[simp] theorem byt_91 : byt Tryz.prog 91 = some 8 := by kernel_rfl
@[simp] theorem elt_91 : elt Tryz.prog 91 = none := by kernel_rfl
@[simp] theorem zc_91 : zcells Tryz.prog 91 = some [.nilFunc] := by kernel_rfl
@[simp] theorem tag_92 : tag Tryz.prog 92 = some false := by kernel_rfl
@[simp] theorem tsz_92 : tsz Tryz.prog 92 = some 1 := by kernel_rfl
@[simp] theorem byt_92 : byt Tryz.prog 92 = some 8 := by kernel_rfl
@[simp] theorem elt_92 : elt Tryz.prog 92 = none := by kernel_rfl
@[simp] theorem zc_92 : zcells Tryz.prog 92 = some [.nilFunc] := by kernel_rfl
@[simp] theorem tag_93 : tag Tryz.prog 93 = some false := by kernel_rfl
@[simp] theorem tsz_93 : tsz Tryz.prog 93 = some 1 := by kernel_rfl
@[simp] theorem byt_93 : byt Tryz.prog 93 = some 8 := by kernel_rfl
@[simp] theorem elt_93 : elt Tryz.prog 93 = none := by kernel_rfl
@[simp] theorem zc_93 : zcells Tryz.prog 93 = some [.nilFunc] := by kernel_rfl
@[simp] theorem tag_94 : tag Tryz.prog 94 = some false := by kernel_rfl
@[simp] theorem tsz_94 : tsz Tryz.prog 94 = some 1 := by kernel_rfl
@[simp] theorem byt_94 : byt Tryz.prog 94 = some 8 := by kernel_rfl
@[simp] theorem elt_94 : elt Tryz.prog 94 = none := by kernel_rfl
@[simp] theorem zc_94 : zcells Tryz.prog 94 = some [.nilFunc] := by kernel_rfl
@[simp] theorem tag_95 : tag Tryz.prog 95 = some true := by kernel_rfl
@[simp] theorem tsz_95 : tsz Tryz.prog 95 = some 5 := by kernel_rfl
@[simp] theorem byt_95 : byt Tryz.prog 95 = some 72 := by kernel_rfl
@[simp] theorem elt_95 : elt Tryz.prog 95 = none := by kernel_rfl
@[simp] theorem foff_95_0 : foff Tryz.prog 95 0 = some (0, 2) := by kernel_rfl
@[simp] theorem foff_95_1 : foff Tryz.prog 95 1 = some (2, 1) := by kernel_rfl
@[simp] theorem foff_95_2 : foff Tryz.prog 95 2 = some (3, 2) := by kernel_rfl
@[simp] theorem places_95 : places Tryz.prog 95 = some [(0, 2), (2, 1), (3, 2)] := by kernel_rfl
@[simp] theorem zc_95 : zcells Tryz.prog 95 = some [.slice none 0 0, .slice none 0 0, .bool false, .int .u64 (0), .int .u64 (0)] := by kernel_rfl
@[simp] theorem tag_96 : tag Tryz.prog 96 = some true := by kernel_rfl
@[simp] theorem tsz_96 : tsz Tryz.prog 96 = some 5 := by kernel_rfl
@[simp] theorem byt_96 : byt Tryz.prog 96 = some 72 := by kernel_rfl
@[simp] theorem elt_96 : elt Tryz.prog 96 = none := by kernel_rfl
@[simp] theorem foff_96_0 : foff Tryz.prog 96 0 = some (0, 2) := by kernel_rfl
@[simp] theorem foff_96_1 : foff Tryz.prog 96 1 = some (2, 1) := by kernel_rfl
@[simp] theorem foff_96_2 : foff Tryz.prog 96 2 = some (3, 2) := by kernel_rfl
@[simp] theorem places_96 : places Tryz.prog 96 = some [(0, 2), (2, 1), (3, 2)] := by kernel_rfl
@[simp] theorem zc_96 : zcells Tryz.prog 96 = some [.slice none 0 0, .slice none 0 0, .bool false, .int .u64 (0), .int .u64 (0)] := by kernel_rfl
@[simp] theorem tag_97 : tag Tryz.prog 97 = some false := by kernel_rfl
@[simp] theorem tsz_97 : tsz Tryz.prog 97 = some 1 := by kernel_rfl
@[simp] theorem byt_97 : byt Tryz.prog 97 = some 8 := by kernel_rfl
@[simp] theorem elt_97 : elt Tryz.prog 97 = none := by kernel_rfl
@[simp] theorem zc_97 : zcells Tryz.prog 97 = some [.nilFunc] := by kernel_rfl
@[simp] theorem tag_98 : tag Tryz.prog 98 = some false := by kernel_rfl
@[simp] theorem tsz_98 : tsz Tryz.prog 98 = some 1 := by kernel_rfl
@[simp] theorem byt_98 : byt Tryz.prog 98 = some 8 := by kernel_rfl
@[simp] theorem elt_98 : elt Tryz.prog 98 = none := by kernel_rfl
@[simp] theorem zc_98 : zcells Tryz.prog 98 = some [.nilFunc] := by kernel_rfl
@[simp] theorem tag_99 : tag Tryz.prog 99 = some false := by kernel_rfl
@[simp] theorem tsz_99 : tsz Tryz.prog 99 = some 1 := by kernel_rfl
@[simp] theorem byt_99 : byt Tryz.prog 99 = some 8 := by kernel_rfl
@[simp] theorem elt_99 : elt Tryz.prog 99 = none := by kernel_rfl
@[simp] theorem zc_99 : zcells Tryz.prog 99 = some [.nilFunc] := by kernel_rfl
@[simp] theorem tag_100 : tag Tryz.prog 100 = some true := by kernel_rfl
@[simp] theorem tsz_100 : tsz Tryz.prog 100 = some 4 := by kernel_rfl
@[simp] theorem byt_100 : byt Tryz.prog 100 = some 4 := by kernel_rfl
@[simp] theorem elt_100 : elt Tryz.prog 100 = none := by kernel_rfl
@[simp] theorem arr_100 : arr Tryz.prog 100 = some (4, 1) := by kernel_rfl
@[simp] theorem zc_100 : zcells Tryz.prog 100 = some [.int .u8 (0), .int .u8 (0), .int .u8 (0), .int .u8 (0)] := by kernel_rfl
@[simp] theorem tag_101 : tag Tryz.prog 101 = some false := by kernel_rfl
@[simp] theorem tsz_101 : tsz Tryz.prog 101 = some 1 := by kernel_rfl
@[simp] theorem byt_101 : byt Tryz.prog 101 = some 8 := by kernel_rfl
@[simp] theorem elt_101 : elt Tryz.prog 101 = none := by kernel_rfl
@[simp] theorem zc_101 : zcells Tryz.prog 101 = some [.nilFunc] := by kernel_rfl
@[simp] theorem tag_102 : tag Tryz.prog 102 = some false := by kernel_rfl
@[simp] theorem tsz_102 : tsz Tryz.prog 102 = some 1 := by kernel_rfl
@[simp] theorem byt_102 : byt Tryz.prog 102 = some 8 := by kernel_rfl
@[simp] theorem elt_102 : elt Tryz.prog 102 = none := by kernel_rfl
@[simp] theorem zc_102 : zcells Tryz.prog 102 = some [.nilFunc] := by kernel_rfl
@[simp] theorem tag_103 : tag Tryz.prog 103 = some false := by kernel_rfl
@[simp] theorem tsz_103 : tsz Tryz.prog 103 = some 1 := by kernel_rfl
@[simp] theorem byt_103 : byt Tryz.prog 103 = some 8 := by kernel_rfl
@[simp] theorem elt_103 : elt Tryz.prog 103 = none := by kernel_rfl
@[simp] theorem tint_103 : tint Tryz.prog 103 = some .u64 := by kernel_rfl
@[simp] theorem und_103 : Program.underlying Tryz.prog 103 = some (.int .u64) := by kernel_rfl
@[simp] theorem zc_103 : zcells Tryz.prog 103 = some [.int .u64 (0)] := by kernel_rfl
@[simp] theorem tag_104 : tag Tryz.prog 104 = some false := by kernel_rfl
@[simp] theorem tsz_104 : tsz Tryz.prog 104 = some 1 := by kernel_rfl
@[simp] theorem byt_104 : byt Tryz.prog 104 = some 8 := by kernel_rfl
@[simp] theorem elt_104 : elt Tryz.prog 104 = none := by kernel_rfl
@[simp] theorem zc_104 : zcells Tryz.prog 104 = some [.nilFunc] := by kernel_rfl
@[simp] theorem tag_105 : tag Tryz.prog 105 = some false := by kernel_rfl
@[simp] theorem tsz_105 : tsz Tryz.prog 105 = some 1 := by kernel_rfl
@[simp] theorem byt_105 : byt Tryz.prog 105 = some 8 := by kernel_rfl
@[simp] theorem elt_105 : elt Tryz.prog 105 = none := by kernel_rfl
@[simp] theorem zc_105 : zcells Tryz.prog 105 = some [.nilFunc] := by kernel_rfl
@[simp] theorem tag_106 : tag Tryz.prog 106 = some false := by kernel_rfl
@[simp] theorem tsz_106 : tsz Tryz.prog 106 = some 1 := by kernel_rfl
@[simp] theorem byt_106 : byt Tryz.prog 106 = some 8 := by kernel_rfl
@[simp] theorem elt_106 : elt Tryz.prog 106 = none := by kernel_rfl
@[simp] theorem zc_106 : zcells Tryz.prog 106 = some [.nilFunc] := by kernel_rfl
@[simp] theorem tag_107 : tag Tryz.prog 107 = some false := by kernel_rfl
@[simp] theorem tsz_107 : tsz Tryz.prog 107 = some 1 := by kernel_rfl
@[simp] theorem byt_107 : byt Tryz.prog 107 = some 0 := by kernel_rfl
@[simp] theorem elt_107 : elt Tryz.prog 107 = none := by kernel_rfl
@[simp] theorem tag_108 : tag Tryz.prog 108 = some false := by kernel_rfl
@[simp] theorem tsz_108 : tsz Tryz.prog 108 = some 1 := by kernel_rfl
@[simp] theorem byt_108 : byt Tryz.prog 108 = some 8 := by kernel_rfl
@[simp] theorem elt_108 : elt Tryz.prog 108 = none := by kernel_rfl
@[simp] theorem zc_108 : zcells Tryz.prog 108 = some [.nilFunc] := by kernel_rfl
@[simp] theorem tag_109 : tag Tryz.prog 109 = some false := by kernel_rfl
@[simp] theorem tsz_109 : tsz Tryz.prog 109 = some 1 := by kernel_rfl
@[simp] theorem byt_109 : byt Tryz.prog 109 = some 8 := by kernel_rfl
@[simp] theorem elt_109 : elt Tryz.prog 109 = none := by kernel_rfl
@[simp] theorem zc_109 : zcells Tryz.prog 109 = some [.nilFunc] := by kernel_rfl
@[simp] theorem tag_110 : tag Tryz.prog 110 = some false := by kernel_rfl
@[simp] theorem tsz_110 : tsz Tryz.prog 110 = some 1 := by kernel_rfl
@[simp] theorem byt_110 : byt Tryz.prog 110 = some 8 := by kernel_rfl
@[simp] theorem elt_110 : elt Tryz.prog 110 = none := by kernel_rfl
@[simp] theorem zc_110 : zcells Tryz.prog 110 = some [.nilFunc] := by kernel_rfl
@[simp] theorem tag_111 : tag Tryz.prog 111 = some false := by kernel_rfl
@[simp] theorem tsz_111 : tsz Tryz.prog 111 = some 1 := by kernel_rfl
@[simp] theorem byt_111 : byt Tryz.prog 111 = some 8 := by kernel_rfl
@[simp] theorem elt_111 : elt Tryz.prog 111 = none := by kernel_rfl
@[simp] theorem zc_111 : zcells Tryz.prog 111 = some [.nilFunc] := by kernel_rfl
@[simp] theorem tag_112 : tag Tryz.prog 112 = some false := by kernel_rfl
@[simp] theorem tsz_112 : tsz Tryz.prog 112 = some 1 := by kernel_rfl
@[simp] theorem byt_112 : byt Tryz.prog 112 = some 8 := by kernel_rfl
@[simp] theorem elt_112 : elt Tryz.prog 112 = none := by kernel_rfl
@[simp] theorem zc_112 : zcells Tryz.prog 112 = some [.nilFunc] := by kernel_rfl
@[simp] theorem tag_113 : tag Tryz.prog 113 = some false := by kernel_rfl
@[simp] theorem tsz_113 : tsz Tryz.prog 113 = some 1 := by kernel_rfl
@[simp] theorem byt_113 : byt Tryz.prog 113 = some 8 := by kernel_rfl
@[simp] theorem elt_113 : elt Tryz.prog 113 = none := by kernel_rfl
@[simp] theorem zc_113 : zcells Tryz.prog 113 = some [.nilFunc] := by kernel_rfl
@[simp] theorem tag_114 : tag Tryz.prog 114 = some false := by kernel_rfl
@[simp] theorem tsz_114 : tsz Tryz.prog 114 = some 1 := by kernel_rfl
@[simp] theorem byt_114 : byt Tryz.prog 114 = some 8 := by kernel_rfl
@[simp] theorem elt_114 : elt Tryz.prog 114 = none := by kernel_rfl
@[simp] theorem zc_114 : zcells Tryz.prog 114 = some [.nilFunc] := by kernel_rfl
@[simp] theorem tag_115 : tag Tryz.prog 115 = some false := by kernel_rfl
@[simp] theorem tsz_115 : tsz Tryz.prog 115 = some 1 := by kernel_rfl
@[simp] theorem byt_115 : byt Tryz.prog 115 = some 8 := by kernel_rfl
@[simp] theorem elt_115 : elt Tryz.prog 115 = none := by kernel_rfl
@[simp] theorem zc_115 : zcells Tryz.prog 115 = some [.nilFunc] := by kernel_rfl
@[simp] theorem tag_116 : tag Tryz.prog 116 = some false := by kernel_rfl
@[simp] theorem tsz_116 : tsz Tryz.prog 116 = some 1 := by kernel_rfl
@[simp] theorem byt_116 : byt Tryz.prog 116 = some 8 := by kernel_rfl
@[simp] theorem elt_116 : elt Tryz.prog 116 = none := by kernel_rfl
@[simp] theorem zc_116 : zcells Tryz.prog 116 = some [.nilFunc] := by kernel_rfl
@[simp] theorem tag_117 : tag Tryz.prog 117 = some false := by kernel_rfl
@[simp] theorem tsz_117 : tsz Tryz.prog 117 = some 1 := by kernel_rfl
@[simp] theorem byt_117 : byt Tryz.prog 117 = some 8 := by kernel_rfl
@[simp] theorem elt_117 : elt Tryz.prog 117 = none := by kernel_rfl
@[simp] theorem zc_117 : zcells Tryz.prog 117 = some [.nilFunc] := by kernel_rfl
@[simp] theorem tag_118 : tag Tryz.prog 118 = some false := by kernel_rfl
@[simp] theorem tsz_118 : tsz Tryz.prog 118 = some 1 := by kernel_rfl
@[simp] theorem byt_118 : byt Tryz.prog 118 = some 8 := by kernel_rfl
@[simp] theorem elt_118 : elt Tryz.prog 118 = none := by kernel_rfl
@[simp] theorem zc_118 : zcells Tryz.prog 118 = some [.nilFunc] := by kernel_rfl
@[simp] theorem tag_119 : tag Tryz.prog 119 = some false := by kernel_rfl
@[simp] theorem tsz_119 : tsz Tryz.prog 119 = some 1 := by kernel_rfl
@[simp] theorem byt_119 : byt Tryz.prog 119 = some 8 := by kernel_rfl
@[simp] theorem elt_119 : elt Tryz.prog 119 = none := by kernel_rfl
@[simp] theorem zc_119 : zcells Tryz.prog 119 = some [.nilFunc] := by kernel_rfl
@[simp] theorem tag_120 : tag Tryz.prog 120 = some false := by kernel_rfl
@[simp] theorem tsz_120 : tsz Tryz.prog 120 = some 1 := by kernel_rfl
@[simp] theorem byt_120 : byt Tryz.prog 120 = some 8 := by kernel_rfl
@[simp] theorem elt_120 : elt Tryz.prog 120 = none := by kernel_rfl
@[simp] theorem tint_120 : tint Tryz.prog 120 = some .i64 := by kernel_rfl
@[simp] theorem und_120 : Program.underlying Tryz.prog 120 = some (.int .i64) := by kernel_rfl
@[simp] theorem zc_120 : zcells Tryz.prog 120 = some [.int .i64 (0)] := by kernel_rfl
@[simp] theorem tag_121 : tag Tryz.prog 121 = some false := by kernel_rfl
@[simp] theorem tsz_121 : tsz Tryz.prog 121 = some 1 := by kernel_rfl
@[simp] theorem byt_121 : byt Tryz.prog 121 = some 0 := by kernel_rfl
@[simp] theorem elt_121 : elt Tryz.prog 121 = none := by kernel_rfl
@[simp] theorem tag_122 : tag Tryz.prog 122 = some false := by kernel_rfl
@[simp] theorem tsz_122 : tsz Tryz.prog 122 = some 1 := by kernel_rfl
@[simp] theorem byt_122 : byt Tryz.prog 122 = some 8 := by kernel_rfl
@[simp] theorem elt_122 : elt Tryz.prog 122 = none := by kernel_rfl
@[simp] theorem zc_122 : zcells Tryz.prog 122 = some [.nilFunc] := by kernel_rfl
@[simp] theorem tag_123 : tag Tryz.prog 123 = some false := by kernel_rfl
@[simp] theorem tsz_123 : tsz Tryz.prog 123 = some 1 := by kernel_rfl
@[simp] theorem byt_123 : byt Tryz.prog 123 = some 8 := by kernel_rfl
@[simp] theorem elt_123 : elt Tryz.prog 123 = none := by kernel_rfl
@[simp] theorem zc_123 : zcells Tryz.prog 123 = some [.nilFunc] := by kernel_rfl
@[simp] theorem tag_124 : tag Tryz.prog 124 = some false := by kernel_rfl
@[simp] theorem tsz_124 : tsz Tryz.prog 124 = some 1 := by kernel_rfl
@[simp] theorem byt_124 : byt Tryz.prog 124 = some 8 := by kernel_rfl
@[simp] theorem elt_124 : elt Tryz.prog 124 = none := by kernel_rfl
@[simp] theorem zc_124 : zcells Tryz.prog 124 = some [.nilFunc] := by kernel_rfl
@[simp] theorem tag_125 : tag Tryz.prog 125 = some false := by kernel_rfl
@[simp] theorem tsz_125 : tsz Tryz.prog 125 = some 1 := by kernel_rfl
@[simp] theorem byt_125 : byt Tryz.prog 125 = some 8 := by kernel_rfl
@[simp] theorem elt_125 : elt Tryz.prog 125 = none := by kernel_rfl
@[simp] theorem zc_125 : zcells Tryz.prog 125 = some [.nilFunc] := by kernel_rfl
@[simp] theorem tag_126 : tag Tryz.prog 126 = some false := by kernel_rfl
@[simp] theorem tsz_126 : tsz Tryz.prog 126 = some 1 := by kernel_rfl
@[simp] theorem byt_126 : byt Tryz.prog 126 = some 8 := by kernel_rfl
@[simp] theorem elt_126 : elt Tryz.prog 126 = none := by kernel_rfl
@[simp] theorem zc_126 : zcells Tryz.prog 126 = some [.nilFunc] := by kernel_rfl
@[simp] theorem tag_127 : tag Tryz.prog 127 = some false := by kernel_rfl
@[simp] theorem tsz_127 : tsz Tryz.prog 127 = some 1 := by kernel_rfl
@[simp] theorem byt_127 : byt Tryz.prog 127 = some 4 := by kernel_rfl
@[simp] theorem elt_127 : elt Tryz.prog 127 = none := by kernel_rfl
@[simp] theorem tint_127 : tint Tryz.prog 127 = some .u32 := by kernel_rfl
@[simp] theorem und_127 : Program.underlying Tryz.prog 127 = some (.int .u32) := by kernel_rfl
@[simp] theorem zc_127 : zcells Tryz.prog 127 = some [.int .u32 (0)] := by kernel_rfl
@[simp] theorem tag_128 : tag Tryz.prog 128 = some false := by kernel_rfl
@[simp] theorem tsz_128 : tsz Tryz.prog 128 = some 1 := by kernel_rfl
@[simp] theorem byt_128 : byt Tryz.prog 128 = some 8 := by kernel_rfl
@[simp] theorem elt_128 : elt Tryz.prog 128 = none := by kernel_rfl
@[simp] theorem zc_128 : zcells Tryz.prog 128 = some [.nilFunc] := by kernel_rfl
@[simp] theorem tag_129 : tag Tryz.prog 129 = some false := by kernel_rfl
@[simp] theorem tsz_129 : tsz Tryz.prog 129 = some 1 := by kernel_rfl
@[simp] theorem byt_129 : byt Tryz.prog 129 = some 8 := by kernel_rfl
@[simp] theorem elt_129 : elt Tryz.prog 129 = none := by kernel_rfl
@[simp] theorem zc_129 : zcells Tryz.prog 129 = some [.nilFunc] := by kernel_rfl
@[simp] theorem tag_130 : tag Tryz.prog 130 = some false := by kernel_rfl
@[simp] theorem tsz_130 : tsz Tryz.prog 130 = some 1 := by kernel_rfl
@[simp] theorem byt_130 : byt Tryz.prog 130 = some 8 := by kernel_rfl
@[simp] theorem elt_130 : elt Tryz.prog 130 = none := by kernel_rfl
@[simp] theorem zc_130 : zcells Tryz.prog 130 = some [.nilFunc] := by kernel_rfl
@[simp] theorem tag_131 : tag Tryz.prog 131 = some false := by kernel_rfl
@[simp] theorem tsz_131 : tsz Tryz.prog 131 = some 1 := by kernel_rfl
@[simp] theorem byt_131 : byt Tryz.prog 131 = some 8 := by kernel_rfl
@[simp] theorem elt_131 : elt Tryz.prog 131 = none := by kernel_rfl
@[simp] theorem zc_131 : zcells Tryz.prog 131 = some [.nilFunc] := by kernel_rfl
@[simp] theorem tag_132 : tag Tryz.prog 132 = some false := by kernel_rfl
@[simp] theorem tsz_132 : tsz Tryz.prog 132 = some 1 := by kernel_rfl
@[simp] theorem byt_132 : byt Tryz.prog 132 = some 8 := by kernel_rfl
@[simp] theorem elt_132 : elt Tryz.prog 132 = none := by kernel_rfl
@[simp] theorem zc_132 : zcells Tryz.prog 132 = some [.nilFunc] := by kernel_rfl
@[simp] theorem tag_133 : tag Tryz.prog 133 = some false := by kernel_rfl
@[simp] theorem tsz_133 : tsz Tryz.prog 133 = some 1 := by kernel_rfl
@[simp] theorem byt_133 : byt Tryz.prog 133 = some 8 := by kernel_rfl
@[simp] theorem elt_133 : elt Tryz.prog 133 = none := by kernel_rfl
@[simp] theorem zc_133 : zcells Tryz.prog 133 = some [.nilFunc] := by kernel_rfl
@[simp] theorem tag_134 : tag Tryz.prog 134 = some false := by kernel_rfl
@[simp] theorem tsz_134 : tsz Tryz.prog 134 = some 1 := by kernel_rfl
@[simp] theorem byt_134 : byt Tryz.prog 134 = some 8 := by kernel_rfl
@[simp] theorem elt_134 : elt Tryz.prog 134 = none := by kernel_rfl
@[simp] theorem zc_134 : zcells Tryz.prog 134 = some [.nilFunc] := by kernel_rfl
@[simp] theorem tag_135 : tag Tryz.prog 135 = some false := by kernel_rfl
@[simp] theorem tsz_135 : tsz Tryz.prog 135 = some 1 := by kernel_rfl
@[simp] theorem byt_135 : byt Tryz.prog 135 = some 0 := by kernel_rfl
@[simp] theorem elt_135 : elt Tryz.prog 135 = none := by kernel_rfl
@[simp] theorem tag_136 : tag Tryz.prog 136 = some false := by kernel_rfl
@[simp] theorem tsz_136 : tsz Tryz.prog 136 = some 1 := by kernel_rfl
@[simp] theorem byt_136 : byt Tryz.prog 136 = some 8 := by kernel_rfl
@[simp] theorem elt_136 : elt Tryz.prog 136 = none := by kernel_rfl
@[simp] theorem isPtr_136 : isPtr Tryz.prog 136 = true := by kernel_rfl
@[simp] theorem zc_136 : zcells Tryz.prog 136 = some [.pointer none] := by kernel_rfl
@[simp] theorem tag_137 : tag Tryz.prog 137 = some false := by kernel_rfl
@[simp] theorem tsz_137 : tsz Tryz.prog 137 = some 1 := by kernel_rfl
@[simp] theorem byt_137 : byt Tryz.prog 137 = some 8 := by kernel_rfl
@[simp] theorem elt_137 : elt Tryz.prog 137 = none := by kernel_rfl
@[simp] theorem zc_137 : zcells Tryz.prog 137 = some [.nilFunc] := by kernel_rfl
@[simp] theorem tag_138 : tag Tryz.prog 138 = some false := by kernel_rfl
@[simp] theorem tsz_138 : tsz Tryz.prog 138 = some 1 := by kernel_rfl
@[simp] theorem byt_138 : byt Tryz.prog 138 = some 8 := by kernel_rfl
@[simp] theorem elt_138 : elt Tryz.prog 138 = none := by kernel_rfl
@[simp] theorem zc_138 : zcells Tryz.prog 138 = some [.nilFunc] := by kernel_rfl
@[simp] theorem tag_139 : tag Tryz.prog 139 = some false := by kernel_rfl
@[simp] theorem tsz_139 : tsz Tryz.prog 139 = some 1 := by kernel_rfl
@[simp] theorem byt_139 : byt Tryz.prog 139 = some 0 := by kernel_rfl
@[simp] theorem elt_139 : elt Tryz.prog 139 = none := by kernel_rfl
@[simp] theorem tag_140 : tag Tryz.prog 140 = some false := by kernel_rfl
@[simp] theorem tsz_140 : tsz Tryz.prog 140 = some 1 := by kernel_rfl
@[simp] theorem byt_140 : byt Tryz.prog 140 = some 8 := by kernel_rfl
@[simp] theorem elt_140 : elt Tryz.prog 140 = none := by kernel_rfl
@[simp] theorem zc_140 : zcells Tryz.prog 140 = some [.nilFunc] := by kernel_rfl
@[simp] theorem tag_141 : tag Tryz.prog 141 = some false := by kernel_rfl
@[simp] theorem tsz_141 : tsz Tryz.prog 141 = some 1 := by kernel_rfl
@[simp] theorem byt_141 : byt Tryz.prog 141 = some 8 := by kernel_rfl
@[simp] theorem elt_141 : elt Tryz.prog 141 = none := by kernel_rfl
@[simp] theorem zc_141 : zcells Tryz.prog 141 = some [.nilFunc] := by kernel_rfl
@[simp] theorem tag_142 : tag Tryz.prog 142 = some false := by kernel_rfl
@[simp] theorem tsz_142 : tsz Tryz.prog 142 = some 1 := by kernel_rfl
@[simp] theorem byt_142 : byt Tryz.prog 142 = some 8 := by kernel_rfl
@[simp] theorem elt_142 : elt Tryz.prog 142 = none := by kernel_rfl
@[simp] theorem zc_142 : zcells Tryz.prog 142 = some [.nilFunc] := by kernel_rfl
@[simp] theorem tag_143 : tag Tryz.prog 143 = some false := by kernel_rfl
@[simp] theorem tsz_143 : tsz Tryz.prog 143 = some 1 := by kernel_rfl
@[simp] theorem byt_143 : byt Tryz.prog 143 = some 8 := by kernel_rfl
@[simp] theorem elt_143 : elt Tryz.prog 143 = none := by kernel_rfl
@[simp] theorem zc_143 : zcells Tryz.prog 143 = some [.nilFunc] := by kernel_rfl
@[simp] theorem tag_144 : tag Tryz.prog 144 = some false := by kernel_rfl
@[simp] theorem tsz_144 : tsz Tryz.prog 144 = some 1 := by kernel_rfl
@[simp] theorem byt_144 : byt Tryz.prog 144 = some 8 := by kernel_rfl
@[simp] theorem elt_144 : elt Tryz.prog 144 = none := by kernel_rfl
@[simp] theorem zc_144 : zcells Tryz.prog 144 = some [.nilFunc] := by kernel_rfl
@[simp] theorem tag_145 : tag Tryz.prog 145 = some false := by kernel_rfl
@[simp] theorem tsz_145 : tsz Tryz.prog 145 = some 1 := by kernel_rfl
@[simp] theorem byt_145 : byt Tryz.prog 145 = some 8 := by kernel_rfl
@[simp] theorem elt_145 : elt Tryz.prog 145 = none := by kernel_rfl
@[simp] theorem zc_145 : zcells Tryz.prog 145 = some [.nilFunc] := by kernel_rfl
@[simp] theorem tag_146 : tag Tryz.prog 146 = some false := by kernel_rfl
@[simp] theorem tsz_146 : tsz Tryz.prog 146 = some 1 := by kernel_rfl
@[simp] theorem byt_146 : byt Tryz.prog 146 = some 8 := by kernel_rfl
@[simp] theorem elt_146 : elt Tryz.prog 146 = none := by kernel_rfl
@[simp] theorem tint_146 : tint Tryz.prog 146 = some .u64 := by kernel_rfl
@[simp] theorem und_146 : Program.underlying Tryz.prog 146 = some (.int .u64) := by kernel_rfl
@[simp] theorem zc_146 : zcells Tryz.prog 146 = some [.int .u64 (0)] := by kernel_rfl
@[simp] theorem tag_147 : tag Tryz.prog 147 = some false := by kernel_rfl
@[simp] theorem tsz_147 : tsz Tryz.prog 147 = some 1 := by kernel_rfl
@[simp] theorem byt_147 : byt Tryz.prog 147 = some 8 := by kernel_rfl
@[simp] theorem elt_147 : elt Tryz.prog 147 = none := by kernel_rfl
@[simp] theorem zc_147 : zcells Tryz.prog 147 = some [.nilFunc] := by kernel_rfl
@[simp] theorem tag_148 : tag Tryz.prog 148 = some false := by kernel_rfl
@[simp] theorem tsz_148 : tsz Tryz.prog 148 = some 1 := by kernel_rfl
@[simp] theorem byt_148 : byt Tryz.prog 148 = some 8 := by kernel_rfl
@[simp] theorem elt_148 : elt Tryz.prog 148 = none := by kernel_rfl
@[simp] theorem zc_148 : zcells Tryz.prog 148 = some [.nilFunc] := by kernel_rfl
@[simp] theorem tag_149 : tag Tryz.prog 149 = some false := by kernel_rfl
@[simp] theorem tsz_149 : tsz Tryz.prog 149 = some 1 := by kernel_rfl
@[simp] theorem byt_149 : byt Tryz.prog 149 = some 8 := by kernel_rfl
@[simp] theorem elt_149 : elt Tryz.prog 149 = none := by kernel_rfl
@[simp] theorem zc_149 : zcells Tryz.prog 149 = some [.nilFunc] := by kernel_rfl
@[simp] theorem tag_150 : tag Tryz.prog 150 = some false := by kernel_rfl
@[simp] theorem tsz_150 : tsz Tryz.prog 150 = some 1 := by kernel_rfl
@[simp] theorem byt_150 : byt Tryz.prog 150 = some 8 := by kernel_rfl
@[simp] theorem elt_150 : elt Tryz.prog 150 = none := by kernel_rfl
@[simp] theorem isPtr_150 : isPtr Tryz.prog 150 = true := by kernel_rfl
@[simp] theorem zc_150 : zcells Tryz.prog 150 = some [.pointer none] := by kernel_rfl
@[simp] theorem tag_151 : tag Tryz.prog 151 = some false := by kernel_rfl
@[simp] theorem tsz_151 : tsz Tryz.prog 151 = some 1 := by kernel_rfl
@[simp] theorem byt_151 : byt Tryz.prog 151 = some 8 := by kernel_rfl
@[simp] theorem elt_151 : elt Tryz.prog 151 = none := by kernel_rfl
@[simp] theorem zc_151 : zcells Tryz.prog 151 = some [.nilFunc] := by kernel_rfl
@[simp] theorem tag_152 : tag Tryz.prog 152 = some false := by kernel_rfl
@[simp] theorem tsz_152 : tsz Tryz.prog 152 = some 1 := by kernel_rfl
@[simp] theorem byt_152 : byt Tryz.prog 152 = some 8 := by kernel_rfl
@[simp] theorem elt_152 : elt Tryz.prog 152 = none := by kernel_rfl
@[simp] theorem zc_152 : zcells Tryz.prog 152 = some [.nilFunc] := by kernel_rfl
@[simp] theorem tag_153 : tag Tryz.prog 153 = some false := by kernel_rfl
@[simp] theorem tsz_153 : tsz Tryz.prog 153 = some 1 := by kernel_rfl
@[simp] theorem byt_153 : byt Tryz.prog 153 = some 8 := by kernel_rfl
@[simp] theorem elt_153 : elt Tryz.prog 153 = none := by kernel_rfl
@[simp] theorem zc_153 : zcells Tryz.prog 153 = some [.nilFunc] := by kernel_rfl
@[simp] theorem tag_154 : tag Tryz.prog 154 = some false := by kernel_rfl
@[simp] theorem tsz_154 : tsz Tryz.prog 154 = some 1 := by kernel_rfl
@[simp] theorem byt_154 : byt Tryz.prog 154 = some 8 := by kernel_rfl
@[simp] theorem elt_154 : elt Tryz.prog 154 = none := by kernel_rfl
@[simp] theorem zc_154 : zcells Tryz.prog 154 = some [.nilFunc] := by kernel_rfl
@[simp] theorem tag_155 : tag Tryz.prog 155 = some false := by kernel_rfl
@[simp] theorem tsz_155 : tsz Tryz.prog 155 = some 1 := by kernel_rfl
@[simp] theorem byt_155 : byt Tryz.prog 155 = some 8 := by kernel_rfl
@[simp] theorem elt_155 : elt Tryz.prog 155 = none := by kernel_rfl
@[simp] theorem isPtr_155 : isPtr Tryz.prog 155 = true := by kernel_rfl
@[simp] theorem zc_155 : zcells Tryz.prog 155 = some [.pointer none] := by kernel_rfl
@[simp] theorem tag_156 : tag Tryz.prog 156 = some false := by kernel_rfl
@[simp] theorem tsz_156 : tsz Tryz.prog 156 = some 1 := by kernel_rfl
@[simp] theorem byt_156 : byt Tryz.prog 156 = some 8 := by kernel_rfl
@[simp] theorem elt_156 : elt Tryz.prog 156 = none := by kernel_rfl
@[simp] theorem isPtr_156 : isPtr Tryz.prog 156 = true := by kernel_rfl
@[simp] theorem zc_156 : zcells Tryz.prog 156 = some [.pointer none] := by kernel_rfl
@[simp] theorem tag_157 : tag Tryz.prog 157 = some true := by kernel_rfl
@[simp] theorem tsz_157 : tsz Tryz.prog 157 = some 2 := by kernel_rfl
@[simp] theorem byt_157 : byt Tryz.prog 157 = some 16 := by kernel_rfl
@[simp] theorem elt_157 : elt Tryz.prog 157 = none := by kernel_rfl
@[simp] theorem arr_157 : arr Tryz.prog 157 = some (2, 1) := by kernel_rfl
@[simp] theorem zc_157 : zcells Tryz.prog 157 = some [.pointer none, .pointer none] := by kernel_rfl
@[simp] theorem tag_158 : tag Tryz.prog 158 = some true := by kernel_rfl
@[simp] theorem tsz_158 : tsz Tryz.prog 158 = some 3 := by kernel_rfl
@[simp] theorem byt_158 : byt Tryz.prog 158 = some 24 := by kernel_rfl
@[simp] theorem elt_158 : elt Tryz.prog 158 = none := by kernel_rfl
@[simp] theorem foff_158_0 : foff Tryz.prog 158 0 = some (0, 1) := by kernel_rfl
@[simp] theorem foff_158_1 : foff Tryz.prog 158 1 = some (1, 2) := by kernel_rfl
@[simp] theorem places_158 : places Tryz.prog 158 = some [(0, 1), (1, 2)] := by kernel_rfl
@[simp] theorem zc_158 : zcells Tryz.prog 158 = some [.pointer none, .pointer none, .pointer none] := by kernel_rfl
@[simp] theorem tag_159 : tag Tryz.prog 159 = some true := by kernel_rfl
@[simp] theorem tsz_159 : tsz Tryz.prog 159 = some 3 := by kernel_rfl
@[simp] theorem byt_159 : byt Tryz.prog 159 = some 24 := by kernel_rfl
@[simp] theorem elt_159 : elt Tryz.prog 159 = none := by kernel_rfl
@[simp] theorem foff_159_0 : foff Tryz.prog 159 0 = some (0, 1) := by kernel_rfl
@[simp] theorem foff_159_1 : foff Tryz.prog 159 1 = some (1, 2) := by kernel_rfl
@[simp] theorem places_159 : places Tryz.prog 159 = some [(0, 1), (1, 2)] := by kernel_rfl
@[simp] theorem zc_159 : zcells Tryz.prog 159 = some [.pointer none, .pointer none, .pointer none] := by kernel_rfl
@[simp] theorem tag_160 : tag Tryz.prog 160 = some true := by kernel_rfl
@[simp] theorem tsz_160 : tsz Tryz.prog 160 = some 4 := by kernel_rfl
@[simp] theorem byt_160 : byt Tryz.prog 160 = some 32 := by kernel_rfl
@[simp] theorem elt_160 : elt Tryz.prog 160 = none := by kernel_rfl
@[simp] theorem foff_160_0 : foff Tryz.prog 160 0 = some (0, 1) := by kernel_rfl
@[simp] theorem foff_160_1 : foff Tryz.prog 160 1 = some (1, 3) := by kernel_rfl
@[simp] theorem places_160 : places Tryz.prog 160 = some [(0, 1), (1, 3)] := by kernel_rfl
@[simp] theorem zc_160 : zcells Tryz.prog 160 = some [.bool false, .pointer none, .pointer none, .pointer none] := by kernel_rfl
@[simp] theorem tag_161 : tag Tryz.prog 161 = some true := by kernel_rfl
@[simp] theorem tsz_161 : tsz Tryz.prog 161 = some 4 := by kernel_rfl
@[simp] theorem byt_161 : byt Tryz.prog 161 = some 32 := by kernel_rfl
@[simp] theorem elt_161 : elt Tryz.prog 161 = none := by kernel_rfl
@[simp] theorem foff_161_0 : foff Tryz.prog 161 0 = some (0, 1) := by kernel_rfl
@[simp] theorem foff_161_1 : foff Tryz.prog 161 1 = some (1, 3) := by kernel_rfl
@[simp] theorem places_161 : places Tryz.prog 161 = some [(0, 1), (1, 3)] := by kernel_rfl
@[simp] theorem zc_161 : zcells Tryz.prog 161 = some [.bool false, .pointer none, .pointer none, .pointer none] := by kernel_rfl
@[simp] theorem tag_162 : tag Tryz.prog 162 = some false := by kernel_rfl
@[simp] theorem tsz_162 : tsz Tryz.prog 162 = some 1 := by kernel_rfl
@[simp] theorem byt_162 : byt Tryz.prog 162 = some 8 := by kernel_rfl
@[simp] theorem elt_162 : elt Tryz.prog 162 = none := by kernel_rfl
@[simp] theorem zc_162 : zcells Tryz.prog 162 = some [.nilFunc] := by kernel_rfl
@[simp] theorem tag_163 : tag Tryz.prog 163 = some false := by kernel_rfl
@[simp] theorem tsz_163 : tsz Tryz.prog 163 = some 1 := by kernel_rfl
@[simp] theorem byt_163 : byt Tryz.prog 163 = some 8 := by kernel_rfl
@[simp] theorem elt_163 : elt Tryz.prog 163 = none := by kernel_rfl
@[simp] theorem zc_163 : zcells Tryz.prog 163 = some [.nilFunc] := by kernel_rfl
@[simp] theorem tag_164 : tag Tryz.prog 164 = some false := by kernel_rfl
@[simp] theorem tsz_164 : tsz Tryz.prog 164 = some 1 := by kernel_rfl
@[simp] theorem byt_164 : byt Tryz.prog 164 = some 8 := by kernel_rfl
@[simp] theorem elt_164 : elt Tryz.prog 164 = none := by kernel_rfl
@[simp] theorem zc_164 : zcells Tryz.prog 164 = some [.nilFunc] := by kernel_rfl
@[simp] theorem tag_165 : tag Tryz.prog 165 = some false := by kernel_rfl
@[simp] theorem tsz_165 : tsz Tryz.prog 165 = some 1 := by kernel_rfl
@[simp] theorem byt_165 : byt Tryz.prog 165 = some 8 := by kernel_rfl
@[simp] theorem elt_165 : elt Tryz.prog 165 = none := by kernel_rfl
@[simp] theorem zc_165 : zcells Tryz.prog 165 = some [.nilFunc] := by kernel_rfl
@[simp] theorem tag_166 : tag Tryz.prog 166 = some false := by kernel_rfl
@[simp] theorem tsz_166 : tsz Tryz.prog 166 = some 1 := by kernel_rfl
@[simp] theorem byt_166 : byt Tryz.prog 166 = some 8 := by kernel_rfl
@[simp] theorem elt_166 : elt Tryz.prog 166 = none := by kernel_rfl
@[simp] theorem zc_166 : zcells Tryz.prog 166 = some [.nilFunc] := by kernel_rfl
@[simp] theorem tag_167 : tag Tryz.prog 167 = some false := by kernel_rfl
@[simp] theorem tsz_167 : tsz Tryz.prog 167 = some 1 := by kernel_rfl
@[simp] theorem byt_167 : byt Tryz.prog 167 = some 8 := by kernel_rfl
@[simp] theorem elt_167 : elt Tryz.prog 167 = none := by kernel_rfl
@[simp] theorem zc_167 : zcells Tryz.prog 167 = some [.nilFunc] := by kernel_rfl
@[simp] theorem tag_168 : tag Tryz.prog 168 = some false := by kernel_rfl
@[simp] theorem tsz_168 : tsz Tryz.prog 168 = some 1 := by kernel_rfl
@[simp] theorem byt_168 : byt Tryz.prog 168 = some 8 := by kernel_rfl
@[simp] theorem elt_168 : elt Tryz.prog 168 = none := by kernel_rfl
@[simp] theorem zc_168 : zcells Tryz.prog 168 = some [.nilFunc] := by kernel_rfl
@[simp] theorem tag_169 : tag Tryz.prog 169 = some false := by kernel_rfl
@[simp] theorem tsz_169 : tsz Tryz.prog 169 = some 1 := by kernel_rfl
@[simp] theorem byt_169 : byt Tryz.prog 169 = some 8 := by kernel_rfl
@[simp] theorem elt_169 : elt Tryz.prog 169 = none := by kernel_rfl
@[simp] theorem zc_169 : zcells Tryz.prog 169 = some [.nilFunc] := by kernel_rfl
@[simp] theorem tag_170 : tag Tryz.prog 170 = some false := by kernel_rfl
@[simp] theorem tsz_170 : tsz Tryz.prog 170 = some 1 := by kernel_rfl
@[simp] theorem byt_170 : byt Tryz.prog 170 = some 8 := by kernel_rfl
@[simp] theorem elt_170 : elt Tryz.prog 170 = none := by kernel_rfl
@[simp] theorem zc_170 : zcells Tryz.prog 170 = some [.nilFunc] := by kernel_rfl
@[simp] theorem tag_171 : tag Tryz.prog 171 = some false := by kernel_rfl
@[simp] theorem tsz_171 : tsz Tryz.prog 171 = some 1 := by kernel_rfl
@[simp] theorem byt_171 : byt Tryz.prog 171 = some 8 := by kernel_rfl
@[simp] theorem elt_171 : elt Tryz.prog 171 = none := by kernel_rfl
@[simp] theorem zc_171 : zcells Tryz.prog 171 = some [.nilFunc] := by kernel_rfl
@[simp] theorem tag_172 : tag Tryz.prog 172 = some false := by kernel_rfl
@[simp] theorem tsz_172 : tsz Tryz.prog 172 = some 1 := by kernel_rfl
@[simp] theorem byt_172 : byt Tryz.prog 172 = some 8 := by kernel_rfl
@[simp] theorem elt_172 : elt Tryz.prog 172 = none := by kernel_rfl
@[simp] theorem zc_172 : zcells Tryz.prog 172 = some [.nilFunc] := by kernel_rfl
@[simp] theorem tag_173 : tag Tryz.prog 173 = some false := by kernel_rfl
@[simp] theorem tsz_173 : tsz Tryz.prog 173 = some 1 := by kernel_rfl
@[simp] theorem byt_173 : byt Tryz.prog 173 = some 8 := by kernel_rfl
@[simp] theorem elt_173 : elt Tryz.prog 173 = none := by kernel_rfl
@[simp] theorem zc_173 : zcells Tryz.prog 173 = some [.nilFunc] := by kernel_rfl
@[simp] theorem tag_174 : tag Tryz.prog 174 = some false := by kernel_rfl
@[simp] theorem tsz_174 : tsz Tryz.prog 174 = some 1 := by kernel_rfl
@[simp] theorem byt_174 : byt Tryz.prog 174 = some 8 := by kernel_rfl
@[simp] theorem elt_174 : elt Tryz.prog 174 = none := by kernel_rfl
@[simp] theorem isPtr_174 : isPtr Tryz.prog 174 = true := by kernel_rfl
@[simp] theorem zc_174 : zcells Tryz.prog 174 = some [.pointer none] := by kernel_rfl
@[simp] theorem tag_175 : tag Tryz.prog 175 = some false := by kernel_rfl
@[simp] theorem tsz_175 : tsz Tryz.prog 175 = some 1 := by kernel_rfl
@[simp] theorem byt_175 : byt Tryz.prog 175 = some 0 := by kernel_rfl
@[simp] theorem elt_175 : elt Tryz.prog 175 = none := by kernel_rfl
@[simp] theorem tag_176 : tag Tryz.prog 176 = some false := by kernel_rfl
@[simp] theorem tsz_176 : tsz Tryz.prog 176 = some 1 := by kernel_rfl
@[simp] theorem byt_176 : byt Tryz.prog 176 = some 8 := by kernel_rfl
@[simp] theorem elt_176 : elt Tryz.prog 176 = none := by kernel_rfl
@[simp] theorem zc_176 : zcells Tryz.prog 176 = some [.nilFunc] := by kernel_rfl
@[simp] theorem tag_177 : tag Tryz.prog 177 = some false := by kernel_rfl
@[simp] theorem tsz_177 : tsz Tryz.prog 177 = some 1 := by kernel_rfl
@[simp] theorem byt_177 : byt Tryz.prog 177 = some 0 := by kernel_rfl
@[simp] theorem elt_177 : elt Tryz.prog 177 = none := by kernel_rfl
@[simp] theorem tag_178 : tag Tryz.prog 178 = some false := by kernel_rfl
@[simp] theorem tsz_178 : tsz Tryz.prog 178 = some 1 := by kernel_rfl
@[simp] theorem byt_178 : byt Tryz.prog 178 = some 8 := by kernel_rfl
@[simp] theorem elt_178 : elt Tryz.prog 178 = none := by kernel_rfl
@[simp] theorem zc_178 : zcells Tryz.prog 178 = some [.nilFunc] := by kernel_rfl
@[simp] theorem tag_179 : tag Tryz.prog 179 = some false := by kernel_rfl
@[simp] theorem tsz_179 : tsz Tryz.prog 179 = some 1 := by kernel_rfl
@[simp] theorem byt_179 : byt Tryz.prog 179 = some 8 := by kernel_rfl
@[simp] theorem elt_179 : elt Tryz.prog 179 = none := by kernel_rfl
@[simp] theorem zc_179 : zcells Tryz.prog 179 = some [.nilFunc] := by kernel_rfl
@[simp] theorem tag_180 : tag Tryz.prog 180 = some false := by kernel_rfl
@[simp] theorem tsz_180 : tsz Tryz.prog 180 = some 1 := by kernel_rfl
@[simp] theorem byt_180 : byt Tryz.prog 180 = some 8 := by kernel_rfl
@[simp] theorem elt_180 : elt Tryz.prog 180 = none := by kernel_rfl
@[simp] theorem zc_180 : zcells Tryz.prog 180 = some [.nilFunc] := by kernel_rfl
@[simp] theorem tag_181 : tag Tryz.prog 181 = some false := by kernel_rfl
@[simp] theorem tsz_181 : tsz Tryz.prog 181 = some 1 := by kernel_rfl
@[simp] theorem byt_181 : byt Tryz.prog 181 = some 8 := by kernel_rfl
@[simp] theorem elt_181 : elt Tryz.prog 181 = none := by kernel_rfl
@[simp] theorem zc_181 : zcells Tryz.prog 181 = some [.nilFunc] := by kernel_rfl
@[simp] theorem tag_182 : tag Tryz.prog 182 = some false := by kernel_rfl
@[simp] theorem tsz_182 : tsz Tryz.prog 182 = some 1 := by kernel_rfl
@[simp] theorem byt_182 : byt Tryz.prog 182 = some 8 := by kernel_rfl
@[simp] theorem elt_182 : elt Tryz.prog 182 = none := by kernel_rfl
@[simp] theorem zc_182 : zcells Tryz.prog 182 = some [.nilFunc] := by kernel_rfl
@[simp] theorem tag_183 : tag Tryz.prog 183 = some false := by kernel_rfl
@[simp] theorem tsz_183 : tsz Tryz.prog 183 = some 1 := by kernel_rfl
@[simp] theorem byt_183 : byt Tryz.prog 183 = some 8 := by kernel_rfl
@[simp] theorem elt_183 : elt Tryz.prog 183 = none := by kernel_rfl
@[simp] theorem isPtr_183 : isPtr Tryz.prog 183 = true := by kernel_rfl
@[simp] theorem zc_183 : zcells Tryz.prog 183 = some [.pointer none] := by kernel_rfl
@[simp] theorem tag_184 : tag Tryz.prog 184 = some false := by kernel_rfl
@[simp] theorem tsz_184 : tsz Tryz.prog 184 = some 1 := by kernel_rfl
@[simp] theorem byt_184 : byt Tryz.prog 184 = some 8 := by kernel_rfl
@[simp] theorem elt_184 : elt Tryz.prog 184 = none := by kernel_rfl
@[simp] theorem zc_184 : zcells Tryz.prog 184 = some [.nilFunc] := by kernel_rfl
@[simp] theorem tag_185 : tag Tryz.prog 185 = some false := by kernel_rfl
@[simp] theorem tsz_185 : tsz Tryz.prog 185 = some 1 := by kernel_rfl
@[simp] theorem byt_185 : byt Tryz.prog 185 = some 8 := by kernel_rfl
@[simp] theorem elt_185 : elt Tryz.prog 185 = none := by kernel_rfl
@[simp] theorem zc_185 : zcells Tryz.prog 185 = some [.nilFunc] := by kernel_rfl
@[simp] theorem tag_186 : tag Tryz.prog 186 = some false := by kernel_rfl
@[simp] theorem tsz_186 : tsz Tryz.prog 186 = some 1 := by kernel_rfl
@[simp] theorem byt_186 : byt Tryz.prog 186 = some 8 := by kernel_rfl
@[simp] theorem elt_186 : elt Tryz.prog 186 = none := by kernel_rfl
@[simp] theorem zc_186 : zcells Tryz.prog 186 = some [.nilFunc] := by kernel_rfl
@[simp] theorem tag_187 : tag Tryz.prog 187 = some false := by kernel_rfl
@[simp] theorem tsz_187 : tsz Tryz.prog 187 = some 1 := by kernel_rfl
@[simp] theorem byt_187 : byt Tryz.prog 187 = some 8 := by kernel_rfl
@[simp] theorem elt_187 : elt Tryz.prog 187 = none := by kernel_rfl
@[simp] theorem zc_187 : zcells Tryz.prog 187 = some [.nilFunc] := by kernel_rfl
@[simp] theorem tag_188 : tag Tryz.prog 188 = some false := by kernel_rfl
@[simp] theorem tsz_188 : tsz Tryz.prog 188 = some 1 := by kernel_rfl
@[simp] theorem byt_188 : byt Tryz.prog 188 = some 8 := by kernel_rfl
@[simp] theorem elt_188 : elt Tryz.prog 188 = none := by kernel_rfl
@[simp] theorem zc_188 : zcells Tryz.prog 188 = some [.nilFunc] := by kernel_rfl
@[simp] theorem tag_189 : tag Tryz.prog 189 = some false := by kernel_rfl
@[simp] theorem tsz_189 : tsz Tryz.prog 189 = some 1 := by kernel_rfl
@[simp] theorem byt_189 : byt Tryz.prog 189 = some 8 := by kernel_rfl
@[simp] theorem elt_189 : elt Tryz.prog 189 = none := by kernel_rfl
@[simp] theorem zc_189 : zcells Tryz.prog 189 = some [.nilFunc] := by kernel_rfl
@[simp] theorem tag_190 : tag Tryz.prog 190 = some false := by kernel_rfl
@[simp] theorem tsz_190 : tsz Tryz.prog 190 = some 1 := by kernel_rfl
@[simp] theorem byt_190 : byt Tryz.prog 190 = some 8 := by kernel_rfl
@[simp] theorem elt_190 : elt Tryz.prog 190 = none := by kernel_rfl
@[simp] theorem zc_190 : zcells Tryz.prog 190 = some [.nilFunc] := by kernel_rfl
@[simp] theorem tag_191 : tag Tryz.prog 191 = some false := by kernel_rfl
@[simp] theorem tsz_191 : tsz Tryz.prog 191 = some 1 := by kernel_rfl
@[simp] theorem byt_191 : byt Tryz.prog 191 = some 24 := by kernel_rfl
@[simp] theorem elt_191 : elt Tryz.prog 191 = some 5 := by kernel_rfl
@[simp] theorem und_191 : Program.underlying Tryz.prog 191 = some (.slice 5) := by kernel_rfl
@[simp] theorem zc_191 : zcells Tryz.prog 191 = some [.slice none 0 0] := by kernel_rfl
@[simp] theorem tag_192 : tag Tryz.prog 192 = some false := by kernel_rfl
@[simp] theorem tsz_192 : tsz Tryz.prog 192 = some 1 := by kernel_rfl
@[simp] theorem byt_192 : byt Tryz.prog 192 = some 8 := by kernel_rfl
@[simp] theorem elt_192 : elt Tryz.prog 192 = none := by kernel_rfl
@[simp] theorem zc_192 : zcells Tryz.prog 192 = some [.nilFunc] := by kernel_rfl
@[simp] theorem tag_193 : tag Tryz.prog 193 = some false := by kernel_rfl
@[simp] theorem tsz_193 : tsz Tryz.prog 193 = some 1 := by kernel_rfl
@[simp] theorem byt_193 : byt Tryz.prog 193 = some 8 := by kernel_rfl
@[simp] theorem elt_193 : elt Tryz.prog 193 = none := by kernel_rfl
@[simp] theorem zc_193 : zcells Tryz.prog 193 = some [.nilFunc] := by kernel_rfl
@[simp] theorem tag_194 : tag Tryz.prog 194 = some false := by kernel_rfl
@[simp] theorem tsz_194 : tsz Tryz.prog 194 = some 1 := by kernel_rfl
@[simp] theorem byt_194 : byt Tryz.prog 194 = some 8 := by kernel_rfl
@[simp] theorem elt_194 : elt Tryz.prog 194 = none := by kernel_rfl
@[simp] theorem zc_194 : zcells Tryz.prog 194 = some [.nilFunc] := by kernel_rfl
@[simp] theorem tag_195 : tag Tryz.prog 195 = some false := by kernel_rfl
@[simp] theorem tsz_195 : tsz Tryz.prog 195 = some 1 := by kernel_rfl
@[simp] theorem byt_195 : byt Tryz.prog 195 = some 8 := by kernel_rfl
@[simp] theorem elt_195 : elt Tryz.prog 195 = none := by kernel_rfl
@[simp] theorem zc_195 : zcells Tryz.prog 195 = some [.nilFunc] := by kernel_rfl
@[simp] theorem tag_196 : tag Tryz.prog 196 = some false := by kernel_rfl
@[simp] theorem tsz_196 : tsz Tryz.prog 196 = some 1 := by kernel_rfl
@[simp] theorem byt_196 : byt Tryz.prog 196 = some 8 := by kernel_rfl
@[simp] theorem elt_196 : elt Tryz.prog 196 = none := by kernel_rfl
@[simp] theorem zc_196 : zcells Tryz.prog 196 = some [.nilFunc] := by kernel_rfl
@[simp] theorem tag_197 : tag Tryz.prog 197 = some false := by kernel_rfl
@[simp] theorem tsz_197 : tsz Tryz.prog 197 = some 1 := by kernel_rfl
@[simp] theorem byt_197 : byt Tryz.prog 197 = some 8 := by kernel_rfl
@[simp] theorem elt_197 : elt Tryz.prog 197 = none := by kernel_rfl
@[simp] theorem zc_197 : zcells Tryz.prog 197 = some [.nilFunc] := by kernel_rfl
@[simp] theorem tag_198 : tag Tryz.prog 198 = some false := by kernel_rfl
@[simp] theorem tsz_198 : tsz Tryz.prog 198 = some 1 := by kernel_rfl
@[simp] theorem byt_198 : byt Tryz.prog 198 = some 8 := by kernel_rfl
@[simp] theorem elt_198 : elt Tryz.prog 198 = none := by kernel_rfl
@[simp] theorem zc_198 : zcells Tryz.prog 198 = some [.nilFunc] := by kernel_rfl
@[simp] theorem tag_199 : tag Tryz.prog 199 = some false := by kernel_rfl
@[simp] theorem tsz_199 : tsz Tryz.prog 199 = some 1 := by kernel_rfl
@[simp] theorem byt_199 : byt Tryz.prog 199 = some 8 := by kernel_rfl
@[simp] theorem elt_199 : elt Tryz.prog 199 = none := by kernel_rfl
@[simp] theorem zc_199 : zcells Tryz.prog 199 = some [.nilFunc] := by kernel_rfl
@[simp] theorem tag_200 : tag Tryz.prog 200 = some true := by kernel_rfl
@[simp] theorem tsz_200 : tsz Tryz.prog 200 = some 4 := by kernel_rfl
@[simp] theorem byt_200 : byt Tryz.prog 200 = some 40 := by kernel_rfl
@[simp] theorem elt_200 : elt Tryz.prog 200 = none := by kernel_rfl
@[simp] theorem foff_200_0 : foff Tryz.prog 200 0 = some (0, 1) := by kernel_rfl
@[simp] theorem foff_200_1 : foff Tryz.prog 200 1 = some (1, 1) := by kernel_rfl
@[simp] theorem foff_200_2 : foff Tryz.prog 200 2 = some (2, 1) := by kernel_rfl
@[simp] theorem foff_200_3 : foff Tryz.prog 200 3 = some (3, 1) := by kernel_rfl
@[simp] theorem places_200 : places Tryz.prog 200 = some [(0, 1), (1, 1), (2, 1), (3, 1)] := by kernel_rfl
@[simp] theorem zc_200 : zcells Tryz.prog 200 = some [.pointer none, .pointer none, .pointer none, .string ByteArray.empty] := by kernel_rfl
@[simp] theorem tag_201 : tag Tryz.prog 201 = some true := by kernel_rfl
@[simp] theorem tsz_201 : tsz Tryz.prog 201 = some 4 := by kernel_rfl
@[simp] theorem byt_201 : byt Tryz.prog 201 = some 40 := by kernel_rfl
@[simp] theorem elt_201 : elt Tryz.prog 201 = none := by kernel_rfl
@[simp] theorem foff_201_0 : foff Tryz.prog 201 0 = some (0, 1) := by kernel_rfl
@[simp] theorem foff_201_1 : foff Tryz.prog 201 1 = some (1, 1) := by kernel_rfl
@[simp] theorem foff_201_2 : foff Tryz.prog 201 2 = some (2, 1) := by kernel_rfl
@[simp] theorem foff_201_3 : foff Tryz.prog 201 3 = some (3, 1) := by kernel_rfl
@[simp] theorem places_201 : places Tryz.prog 201 = some [(0, 1), (1, 1), (2, 1), (3, 1)] := by kernel_rfl
@[simp] theorem zc_201 : zcells Tryz.prog 201 = some [.pointer none, .pointer none, .pointer none, .string ByteArray.empty] := by kernel_rfl
@[simp] theorem tag_202 : tag Tryz.prog 202 = some true := by kernel_rfl
@[simp] theorem tsz_202 : tsz Tryz.prog 202 = some 0 := by kernel_rfl
@[simp] theorem byt_202 : byt Tryz.prog 202 = some 0 := by kernel_rfl
@[simp] theorem elt_202 : elt Tryz.prog 202 = none := by kernel_rfl
@[simp] theorem arr_202 : arr Tryz.prog 202 = some (0, 1) := by kernel_rfl
@[simp] theorem zc_202 : zcells Tryz.prog 202 = some [] := by kernel_rfl
@[simp] theorem tag_203 : tag Tryz.prog 203 = some true := by kernel_rfl
@[simp] theorem tsz_203 : tsz Tryz.prog 203 = some 0 := by kernel_rfl
@[simp] theorem byt_203 : byt Tryz.prog 203 = some 0 := by kernel_rfl
@[simp] theorem elt_203 : elt Tryz.prog 203 = none := by kernel_rfl
@[simp] theorem places_203 : places Tryz.prog 203 = some [(0, 0)] := by kernel_rfl
@[simp] theorem zc_203 : zcells Tryz.prog 203 = some [] := by kernel_rfl
@[simp] theorem tag_204 : tag Tryz.prog 204 = some true := by kernel_rfl
@[simp] theorem tsz_204 : tsz Tryz.prog 204 = some 0 := by kernel_rfl
@[simp] theorem byt_204 : byt Tryz.prog 204 = some 0 := by kernel_rfl
@[simp] theorem elt_204 : elt Tryz.prog 204 = none := by kernel_rfl
@[simp] theorem places_204 : places Tryz.prog 204 = some [(0, 0)] := by kernel_rfl
@[simp] theorem zc_204 : zcells Tryz.prog 204 = some [] := by kernel_rfl
@[simp] theorem tag_205 : tag Tryz.prog 205 = some false := by kernel_rfl
@[simp] theorem tsz_205 : tsz Tryz.prog 205 = some 1 := by kernel_rfl
@[simp] theorem byt_205 : byt Tryz.prog 205 = some 8 := by kernel_rfl
@[simp] theorem elt_205 : elt Tryz.prog 205 = none := by kernel_rfl
@[simp] theorem zc_205 : zcells Tryz.prog 205 = some [.nilFunc] := by kernel_rfl
@[simp] theorem tag_206 : tag Tryz.prog 206 = some false := by kernel_rfl
@[simp] theorem tsz_206 : tsz Tryz.prog 206 = some 1 := by kernel_rfl
@[simp] theorem byt_206 : byt Tryz.prog 206 = some 1 := by kernel_rfl
@[simp] theorem elt_206 : elt Tryz.prog 206 = none := by kernel_rfl
@[simp] theorem tint_206 : tint Tryz.prog 206 = some .u8 := by kernel_rfl
@[simp] theorem und_206 : Program.underlying Tryz.prog 206 = some (.int .u8) := by kernel_rfl
@[simp] theorem zc_206 : zcells Tryz.prog 206 = some [.int .u8 (0)] := by kernel_rfl
@[simp] theorem tag_207 : tag Tryz.prog 207 = some false := by kernel_rfl
@[simp] theorem tsz_207 : tsz Tryz.prog 207 = some 1 := by kernel_rfl
@[simp] theorem byt_207 : byt Tryz.prog 207 = some 1 := by kernel_rfl
@[simp] theorem elt_207 : elt Tryz.prog 207 = none := by kernel_rfl
@[simp] theorem tint_207 : tint Tryz.prog 207 = some .u8 := by kernel_rfl
@[simp] theorem und_207 : Program.underlying Tryz.prog 207 = some (.int .u8) := by kernel_rfl
@[simp] theorem zc_207 : zcells Tryz.prog 207 = some [.int .u8 (0)] := by kernel_rfl
@[simp] theorem tag_208 : tag Tryz.prog 208 = some false := by kernel_rfl
@[simp] theorem tsz_208 : tsz Tryz.prog 208 = some 1 := by kernel_rfl
@[simp] theorem byt_208 : byt Tryz.prog 208 = some 8 := by kernel_rfl
@[simp] theorem elt_208 : elt Tryz.prog 208 = none := by kernel_rfl
@[simp] theorem zc_208 : zcells Tryz.prog 208 = some [.nilFunc] := by kernel_rfl
@[simp] theorem tag_209 : tag Tryz.prog 209 = some false := by kernel_rfl
@[simp] theorem tsz_209 : tsz Tryz.prog 209 = some 1 := by kernel_rfl
@[simp] theorem byt_209 : byt Tryz.prog 209 = some 8 := by kernel_rfl
@[simp] theorem elt_209 : elt Tryz.prog 209 = none := by kernel_rfl
@[simp] theorem isPtr_209 : isPtr Tryz.prog 209 = true := by kernel_rfl
@[simp] theorem zc_209 : zcells Tryz.prog 209 = some [.pointer none] := by kernel_rfl
@[simp] theorem tag_210 : tag Tryz.prog 210 = some false := by kernel_rfl
@[simp] theorem tsz_210 : tsz Tryz.prog 210 = some 1 := by kernel_rfl
@[simp] theorem byt_210 : byt Tryz.prog 210 = some 4 := by kernel_rfl
@[simp] theorem elt_210 : elt Tryz.prog 210 = none := by kernel_rfl
@[simp] theorem tint_210 : tint Tryz.prog 210 = some .i32 := by kernel_rfl
@[simp] theorem und_210 : Program.underlying Tryz.prog 210 = some (.int .i32) := by kernel_rfl
@[simp] theorem zc_210 : zcells Tryz.prog 210 = some [.int .i32 (0)] := by kernel_rfl
@[simp] theorem tag_211 : tag Tryz.prog 211 = some false := by kernel_rfl
@[simp] theorem tsz_211 : tsz Tryz.prog 211 = some 1 := by kernel_rfl
@[simp] theorem byt_211 : byt Tryz.prog 211 = some 4 := by kernel_rfl
@[simp] theorem elt_211 : elt Tryz.prog 211 = none := by kernel_rfl
@[simp] theorem tint_211 : tint Tryz.prog 211 = some .i32 := by kernel_rfl
@[simp] theorem und_211 : Program.underlying Tryz.prog 211 = some (.int .i32) := by kernel_rfl
@[simp] theorem zc_211 : zcells Tryz.prog 211 = some [.int .i32 (0)] := by kernel_rfl
@[simp] theorem tag_212 : tag Tryz.prog 212 = some true := by kernel_rfl
@[simp] theorem tsz_212 : tsz Tryz.prog 212 = some 11 := by kernel_rfl
@[simp] theorem byt_212 : byt Tryz.prog 212 = some 48 := by kernel_rfl
@[simp] theorem elt_212 : elt Tryz.prog 212 = none := by kernel_rfl
@[simp] theorem foff_212_0 : foff Tryz.prog 212 0 = some (0, 1) := by kernel_rfl
@[simp] theorem foff_212_1 : foff Tryz.prog 212 1 = some (1, 1) := by kernel_rfl
@[simp] theorem foff_212_2 : foff Tryz.prog 212 2 = some (2, 1) := by kernel_rfl
@[simp] theorem foff_212_3 : foff Tryz.prog 212 3 = some (3, 1) := by kernel_rfl
@[simp] theorem foff_212_4 : foff Tryz.prog 212 4 = some (4, 1) := by kernel_rfl
@[simp] theorem foff_212_5 : foff Tryz.prog 212 5 = some (5, 1) := by kernel_rfl
@[simp] theorem foff_212_6 : foff Tryz.prog 212 6 = some (6, 1) := by kernel_rfl
@[simp] theorem foff_212_7 : foff Tryz.prog 212 7 = some (7, 1) := by kernel_rfl
@[simp] theorem foff_212_8 : foff Tryz.prog 212 8 = some (8, 1) := by kernel_rfl
@[simp] theorem foff_212_9 : foff Tryz.prog 212 9 = some (9, 1) := by kernel_rfl
@[simp] theorem foff_212_10 : foff Tryz.prog 212 10 = some (10, 1) := by kernel_rfl
@[simp] theorem places_212 : places Tryz.prog 212 = some [(0, 1), (1, 1), (2, 1), (3, 1), (4, 1), (5, 1), (6, 1), (7, 1), (8, 1), (9, 1), (10, 1)] := by kernel_rfl
@[simp] theorem zc_212 : zcells Tryz.prog 212 = some [.int .u64 (0), .int .u64 (0), .int .u32 (0), .int .u8 (0), .int .u8 (0), .int .u8 (0), .int .u8 (0), .nilFunc, .pointer none, .int .i32 (0), .int .i32 (0)] := by kernel_rfl
@[simp] theorem tag_213 : tag Tryz.prog 213 = some true := by kernel_rfl
@[simp] theorem tsz_213 : tsz Tryz.prog 213 = some 11 := by kernel_rfl
@[simp] theorem byt_213 : byt Tryz.prog 213 = some 48 := by kernel_rfl
@[simp] theorem elt_213 : elt Tryz.prog 213 = none := by kernel_rfl
@[simp] theorem foff_213_0 : foff Tryz.prog 213 0 = some (0, 1) := by kernel_rfl
@[simp] theorem foff_213_1 : foff Tryz.prog 213 1 = some (1, 1) := by kernel_rfl
@[simp] theorem foff_213_2 : foff Tryz.prog 213 2 = some (2, 1) := by kernel_rfl
@[simp] theorem foff_213_3 : foff Tryz.prog 213 3 = some (3, 1) := by kernel_rfl
@[simp] theorem foff_213_4 : foff Tryz.prog 213 4 = some (4, 1) := by kernel_rfl
@[simp] theorem foff_213_5 : foff Tryz.prog 213 5 = some (5, 1) := by kernel_rfl
@[simp] theorem foff_213_6 : foff Tryz.prog 213 6 = some (6, 1) := by kernel_rfl
@[simp] theorem foff_213_7 : foff Tryz.prog 213 7 = some (7, 1) := by kernel_rfl
@[simp] theorem foff_213_8 : foff Tryz.prog 213 8 = some (8, 1) := by kernel_rfl
@[simp] theorem foff_213_9 : foff Tryz.prog 213 9 = some (9, 1) := by kernel_rfl
@[simp] theorem foff_213_10 : foff Tryz.prog 213 10 = some (10, 1) := by kernel_rfl
@[simp] theorem places_213 : places Tryz.prog 213 = some [(0, 1), (1, 1), (2, 1), (3, 1), (4, 1), (5, 1), (6, 1), (7, 1), (8, 1), (9, 1), (10, 1)] := by kernel_rfl
@[simp] theorem zc_213 : zcells Tryz.prog 213 = some [.int .u64 (0), .int .u64 (0), .int .u32 (0), .int .u8 (0), .int .u8 (0), .int .u8 (0), .int .u8 (0), .nilFunc, .pointer none, .int .i32 (0), .int .i32 (0)] := by kernel_rfl
@[simp] theorem tag_214 : tag Tryz.prog 214 = some false := by kernel_rfl
@[simp] theorem tsz_214 : tsz Tryz.prog 214 = some 1 := by kernel_rfl
@[simp] theorem byt_214 : byt Tryz.prog 214 = some 8 := by kernel_rfl
@[simp] theorem elt_214 : elt Tryz.prog 214 = none := by kernel_rfl
@[simp] theorem zc_214 : zcells Tryz.prog 214 = some [.pointer none] := by kernel_rfl
end Go.Am
