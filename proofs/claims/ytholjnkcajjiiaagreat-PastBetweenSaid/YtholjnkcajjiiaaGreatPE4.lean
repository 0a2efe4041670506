import Derived.Test.YtholjnkcajjiiaaGreatProg
import Derived.KernelRfl
import Derived.Test.YtholjnkcajjiiaaGreatPE1
import Derived.Test.YtholjnkcajjiiaaGreatPE3
set_option linter.unusedVariables false
namespace Go.Am
open Go.Proofs
theorem hP : Tryz.prog.follows .mixedOrders = true := by kernel_rfl
@[simp] theorem tag_0 : tag Tryz.prog 0 = some false := by kernel_rfl
@[simp] theorem tsz_0 : tsz Tryz.prog 0 = some 1 := by kernel_rfl
@[simp] theorem byt_0 : byt Tryz.prog 0 = some 0 := by kernel_rfl
@[simp] theorem elt_0 : elt Tryz.prog 0 = none := by kernel_rfl
@[simp] theorem tag_1 : tag Tryz.prog 1 = some false := by kernel_rfl
@[simp] theorem tsz_1 : tsz Tryz.prog 1 = some 1 := by kernel_rfl
@[simp] theorem byt_1 : byt Tryz.prog 1 = some 8 := by kernel_rfl
@[simp] theorem elt_1 : elt Tryz.prog 1 = none := by kernel_rfl
@[simp] theorem zc_1 : zcells Tryz.prog 1 = some [.nilFunc] := by kernel_rfl
@[simp] theorem tag_2 : tag Tryz.prog 2 = some false := by kernel_rfl
@[simp] theorem tsz_2 : tsz Tryz.prog 2 = some 1 := by kernel_rfl
@[simp] theorem byt_2 : byt Tryz.prog 2 = some 8 := by kernel_rfl
@[simp] theorem elt_2 : elt Tryz.prog 2 = none := by kernel_rfl
@[simp] theorem tint_2 : tint Tryz.prog 2 = some .i64 := by kernel_rfl
@[simp] theorem und_2 : Program.underlying Tryz.prog 2 = some (.int .i64) := by kernel_rfl
@[simp] theorem zc_2 : zcells Tryz.prog 2 = some [.int .i64 (0)] := by kernel_rfl
@[simp] theorem tag_3 : tag Tryz.prog 3 = some false := by kernel_rfl
@[simp] theorem tsz_3 : tsz Tryz.prog 3 = some 1 := by kernel_rfl
@[simp] theorem byt_3 : byt Tryz.prog 3 = some 8 := by kernel_rfl
@[simp] theorem elt_3 : elt Tryz.prog 3 = none := by kernel_rfl
@[simp] theorem tint_3 : tint Tryz.prog 3 = some .i64 := by kernel_rfl
@[simp] theorem und_3 : Program.underlying Tryz.prog 3 = some (.int .i64) := by kernel_rfl
@[simp] theorem zc_3 : zcells Tryz.prog 3 = some [.int .i64 (0)] := by kernel_rfl
@[simp] theorem tag_4 : tag Tryz.prog 4 = some false := by kernel_rfl
@[simp] theorem tsz_4 : tsz Tryz.prog 4 = some 1 := by kernel_rfl
@[simp] theorem byt_4 : byt Tryz.prog 4 = some 1 := by kernel_rfl
@[simp] theorem elt_4 : elt Tryz.prog 4 = none := by kernel_rfl
@[simp] theorem isBool_4 : isBool Tryz.prog 4 = true := by kernel_rfl
@[simp] theorem zc_4 : zcells Tryz.prog 4 = some [.bool false] := by kernel_rfl
@[simp] theorem tag_5 : tag Tryz.prog 5 = some false := by kernel_rfl
@[simp] theorem tsz_5 : tsz Tryz.prog 5 = some 1 := by kernel_rfl
@[simp] theorem byt_5 : byt Tryz.prog 5 = some 1 := by kernel_rfl
@[simp] theorem elt_5 : elt Tryz.prog 5 = none := by kernel_rfl
@[simp] theorem tint_5 : tint Tryz.prog 5 = some .u8 := by kernel_rfl
@[simp] theorem und_5 : Program.underlying Tryz.prog 5 = some (.int .u8) := by kernel_rfl
@[simp] theorem zc_5 : zcells Tryz.prog 5 = some [.int .u8 (0)] := by kernel_rfl
@[simp] theorem tag_6 : tag Tryz.prog 6 = some false := by kernel_rfl
@[simp] theorem tsz_6 : tsz Tryz.prog 6 = some 1 := by kernel_rfl
@[simp] theorem byt_6 : byt Tryz.prog 6 = some 1 := by kernel_rfl
@[simp] theorem elt_6 : elt Tryz.prog 6 = none := by kernel_rfl
@[simp] theorem tint_6 : tint Tryz.prog 6 = some .u8 := by kernel_rfl
@[simp] theorem und_6 : Program.underlying Tryz.prog 6 = some (.int .u8) := by kernel_rfl
@[simp] theorem zc_6 : zcells Tryz.prog 6 = some [.int .u8 (0)] := by kernel_rfl
@[simp] theorem tag_7 : tag Tryz.prog 7 = some true := by kernel_rfl
@[simp] theorem tsz_7 : tsz Tryz.prog 7 = some 4 := by kernel_rfl
@[simp] theorem byt_7 : byt Tryz.prog 7 = some 24 := by kernel_rfl
@[simp] theorem elt_7 : elt Tryz.prog 7 = none := by kernel_rfl
@[simp] theorem foff_7_0 : foff Tryz.prog 7 0 = some (0, 1) := by kernel_rfl
@[simp] theorem fone_7_0 : fone Tryz.prog 7 0 = some 0 := by kernel_rfl
@[simp] theorem foff_7_1 : foff Tryz.prog 7 1 = some (1, 1) := by kernel_rfl
@[simp] theorem fone_7_1 : fone Tryz.prog 7 1 = some 1 := by kernel_rfl
@[simp] theorem foff_7_2 : foff Tryz.prog 7 2 = some (2, 1) := by kernel_rfl
@[simp] theorem fone_7_2 : fone Tryz.prog 7 2 = some 2 := by kernel_rfl
@[simp] theorem foff_7_3 : foff Tryz.prog 7 3 = some (3, 1) := by kernel_rfl
@[simp] theorem fone_7_3 : fone Tryz.prog 7 3 = some 3 := by kernel_rfl
@[simp] theorem places_7 : places Tryz.prog 7 = some [(0, 1), (1, 1), (2, 1), (3, 1)] := by kernel_rfl
@[simp] theorem eqg_7 : Program.eqGuardType Tryz.prog Tryz.prog.depth 7 = false := by kernel_rfl
@[simp] theorem eqT_7 (x0 y0 : Int) (x1 y1 : Int) (x2 y2 : Bool) (x3 y3 : Int) : eqT Tryz.prog 10 7 (.agg [.im (.sc (.int .i64 x0)), .im (.sc (.int .i64 x1)), .im (.sc (.bool x2)), .im (.sc (.int .u8 x3))]) (.agg [.im (.sc (.int .i64 y0)), .im (.sc (.int .i64 y1)), .im (.sc (.bool y2)), .im (.sc (.int .u8 y3))]) = some ((x0 == y0) && ((x1 == y1) && ((x2 == y2) && ((x3 == y3) && true)))) := by kernel_rfl
@[simp] theorem zc_7 : zcells Tryz.prog 7 = some [.int .i64 (0), .int .i64 (0), .bool false, .int .u8 (0)] := by kernel_rfl
@[simp] theorem tag_8 : tag Tryz.prog 8 = some true := by kernel_rfl
@[simp] theorem tsz_8 : tsz Tryz.prog 8 = some 4 := by kernel_rfl
@[simp] theorem byt_8 : byt Tryz.prog 8 = some 24 := by kernel_rfl
@[simp] theorem elt_8 : elt Tryz.prog 8 = none := by kernel_rfl
@[simp] theorem foff_8_0 : foff Tryz.prog 8 0 = some (0, 1) := by kernel_rfl
@[simp] theorem fone_8_0 : fone Tryz.prog 8 0 = some 0 := by kernel_rfl
@[simp] theorem foff_8_1 : foff Tryz.prog 8 1 = some (1, 1) := by kernel_rfl
@[simp] theorem fone_8_1 : fone Tryz.prog 8 1 = some 1 := by kernel_rfl
@[simp] theorem foff_8_2 : foff Tryz.prog 8 2 = some (2, 1) := by kernel_rfl
@[simp] theorem fone_8_2 : fone Tryz.prog 8 2 = some 2 := by kernel_rfl
@[simp] theorem foff_8_3 : foff Tryz.prog 8 3 = some (3, 1) := by kernel_rfl
@[simp] theorem fone_8_3 : fone Tryz.prog 8 3 = some 3 := by kernel_rfl
@[simp] theorem places_8 : places Tryz.prog 8 = some [(0, 1), (1, 1), (2, 1), (3, 1)] := by kernel_rfl
@[simp] theorem eqg_8 : Program.eqGuardType Tryz.prog Tryz.prog.depth 8 = false := by kernel_rfl
@[simp] theorem eqT_8 (x0 y0 : Int) (x1 y1 : Int) (x2 y2 : Bool) (x3 y3 : Int) : eqT Tryz.prog 10 8 (.agg [.im (.sc (.int .i64 x0)), .im (.sc (.int .i64 x1)), .im (.sc (.bool x2)), .im (.sc (.int .u8 x3))]) (.agg [.im (.sc (.int .i64 y0)), .im (.sc (.int .i64 y1)), .im (.sc (.bool y2)), .im (.sc (.int .u8 y3))]) = some ((x0 == y0) && ((x1 == y1) && ((x2 == y2) && ((x3 == y3) && true)))) := by kernel_rfl
@[simp] theorem zc_8 : zcells Tryz.prog 8 = some [.int .i64 (0), .int .i64 (0), .bool false, .int .u8 (0)] := by kernel_rfl
@[simp] theorem tag_9 : tag Tryz.prog 9 = some false := by kernel_rfl
@[simp] theorem tsz_9 : tsz Tryz.prog 9 = some 1 := by kernel_rfl
@[simp] theorem byt_9 : byt Tryz.prog 9 = some 16 := by kernel_rfl
@[simp] theorem elt_9 : elt Tryz.prog 9 = none := by kernel_rfl
@[simp] theorem isStr_9 : isStr Tryz.prog 9 = true := by kernel_rfl
@[simp] theorem zc_9 : zcells Tryz.prog 9 = some [.string ByteArray.empty] := by kernel_rfl
@[simp] theorem tag_10 : tag Tryz.prog 10 = some false := by kernel_rfl
@[simp] theorem tsz_10 : tsz Tryz.prog 10 = some 1 := by kernel_rfl
@[simp] theorem byt_10 : byt Tryz.prog 10 = some 16 := by kernel_rfl
@[simp] theorem elt_10 : elt Tryz.prog 10 = none := by kernel_rfl
@[simp] theorem isStr_10 : isStr Tryz.prog 10 = true := by kernel_rfl
@[simp] theorem zc_10 : zcells Tryz.prog 10 = some [.string ByteArray.empty] := by kernel_rfl
@[simp] theorem tag_11 : tag Tryz.prog 11 = some false := by kernel_rfl
@[simp] theorem tsz_11 : tsz Tryz.prog 11 = some 1 := by kernel_rfl
@[simp] theorem byt_11 : byt Tryz.prog 11 = some 16 := by kernel_rfl
@[simp] theorem elt_11 : elt Tryz.prog 11 = none := by kernel_rfl
@[simp] theorem isStr_11 : isStr Tryz.prog 11 = true := by kernel_rfl
@[simp] theorem zc_11 : zcells Tryz.prog 11 = some [.string ByteArray.empty] := by kernel_rfl
@[simp] theorem tag_12 : tag Tryz.prog 12 = some false := by kernel_rfl
@[simp] theorem tsz_12 : tsz Tryz.prog 12 = some 1 := by kernel_rfl
@[simp] theorem byt_12 : byt Tryz.prog 12 = some 8 := by kernel_rfl
@[simp] theorem elt_12 : elt Tryz.prog 12 = none := by kernel_rfl
@[simp] theorem tint_12 : tint Tryz.prog 12 = some .u64 := by kernel_rfl
@[simp] theorem und_12 : Program.underlying Tryz.prog 12 = some (.int .u64) := by kernel_rfl
@[simp] theorem zc_12 : zcells Tryz.prog 12 = some [.int .u64 (0)] := by kernel_rfl
@[simp] theorem tag_13 : tag Tryz.prog 13 = some true := by kernel_rfl
@[simp] theorem tsz_13 : tsz Tryz.prog 13 = some 2 := by kernel_rfl
@[simp] theorem byt_13 : byt Tryz.prog 13 = some 24 := by kernel_rfl
@[simp] theorem elt_13 : elt Tryz.prog 13 = none := by kernel_rfl
@[simp] theorem foff_13_0 : foff Tryz.prog 13 0 = some (0, 1) := by kernel_rfl
@[simp] theorem fone_13_0 : fone Tryz.prog 13 0 = some 0 := by kernel_rfl
@[simp] theorem foff_13_1 : foff Tryz.prog 13 1 = some (1, 1) := by kernel_rfl
@[simp] theorem fone_13_1 : fone Tryz.prog 13 1 = some 1 := by kernel_rfl
@[simp] theorem places_13 : places Tryz.prog 13 = some [(0, 1), (1, 1)] := by kernel_rfl
@[simp] theorem zc_13 : zcells Tryz.prog 13 = some [.string ByteArray.empty, .int .u64 (0)] := by kernel_rfl
@[simp] theorem tag_14 : tag Tryz.prog 14 = some true := by kernel_rfl
@[simp] theorem tsz_14 : tsz Tryz.prog 14 = some 2 := by kernel_rfl
@[simp] theorem byt_14 : byt Tryz.prog 14 = some 24 := by kernel_rfl
@[simp] theorem elt_14 : elt Tryz.prog 14 = none := by kernel_rfl
@[simp] theorem foff_14_0 : foff Tryz.prog 14 0 = some (0, 1) := by kernel_rfl
@[simp] theorem fone_14_0 : fone Tryz.prog 14 0 = some 0 := by kernel_rfl
@[simp] theorem foff_14_1 : foff Tryz.prog 14 1 = some (1, 1) := by kernel_rfl
@[simp] theorem fone_14_1 : fone Tryz.prog 14 1 = some 1 := by kernel_rfl
@[simp] theorem places_14 : places Tryz.prog 14 = some [(0, 1), (1, 1)] := by kernel_rfl
@[simp] theorem zc_14 : zcells Tryz.prog 14 = some [.string ByteArray.empty, .int .u64 (0)] := by kernel_rfl
@[simp] theorem tag_15 : tag Tryz.prog 15 = some false := by kernel_rfl
@[simp] theorem tsz_15 : tsz Tryz.prog 15 = some 1 := by kernel_rfl
@[simp] theorem byt_15 : byt Tryz.prog 15 = some 8 := by kernel_rfl
@[simp] theorem elt_15 : elt Tryz.prog 15 = none := by kernel_rfl
@[simp] theorem isPtr_15 : isPtr Tryz.prog 15 = true := by kernel_rfl
@[simp] theorem zc_15 : zcells Tryz.prog 15 = some [.pointer none] := by kernel_rfl
@[simp] theorem tag_16 : tag Tryz.prog 16 = some false := by kernel_rfl
@[simp] theorem tsz_16 : tsz Tryz.prog 16 = some 1 := by kernel_rfl
@[simp] theorem byt_16 : byt Tryz.prog 16 = some 8 := by kernel_rfl
@[simp] theorem elt_16 : elt Tryz.prog 16 = none := by kernel_rfl
@[simp] theorem isPtr_16 : isPtr Tryz.prog 16 = true := by kernel_rfl
@[simp] theorem zc_16 : zcells Tryz.prog 16 = some [.pointer none] := by kernel_rfl
@[simp] theorem tag_17 : tag Tryz.prog 17 = some false := by kernel_rfl
@[simp] theorem tsz_17 : tsz Tryz.prog 17 = some 1 := by kernel_rfl
@[simp] theorem byt_17 : byt Tryz.prog 17 = some 8 := by kernel_rfl
@[simp] theorem elt_17 : elt Tryz.prog 17 = none := by kernel_rfl
@[simp] theorem isPtr_17 : isPtr Tryz.prog 17 = true := by kernel_rfl
@[simp] theorem zc_17 : zcells Tryz.prog 17 = some [.pointer none] := by kernel_rfl
@[simp] theorem tag_18 : tag Tryz.prog 18 = some true := by kernel_rfl
@[simp] theorem tsz_18 : tsz Tryz.prog 18 = some 1 := by kernel_rfl
@[simp] theorem byt_18 : byt Tryz.prog 18 = some 8 := by kernel_rfl
@[simp] theorem elt_18 : elt Tryz.prog 18 = none := by kernel_rfl
@[simp] theorem foff_18_0 : foff Tryz.prog 18 0 = some (0, 1) := by kernel_rfl
@[simp] theorem fone_18_0 : fone Tryz.prog 18 0 = some 0 := by kernel_rfl
@[simp] theorem places_18 : places Tryz.prog 18 = some [(0, 1)] := by kernel_rfl
@[simp] theorem zc_18 : zcells Tryz.prog 18 = some [.pointer none] := by kernel_rfl
@[simp] theorem tag_19 : tag Tryz.prog 19 = some true := by kernel_rfl
@[simp] theorem tsz_19 : tsz Tryz.prog 19 = some 1 := by kernel_rfl
@[simp] theorem byt_19 : byt Tryz.prog 19 = some 8 := by kernel_rfl
@[simp] theorem elt_19 : elt Tryz.prog 19 = none := by kernel_rfl
@[simp] theorem foff_19_0 : foff Tryz.prog 19 0 = some (0, 1) := by kernel_rfl
@[simp] theorem fone_19_0 : fone Tryz.prog 19 0 = some 0 := by kernel_rfl
@[simp] theorem places_19 : places Tryz.prog 19 = some [(0, 1)] := by kernel_rfl
@[simp] theorem zc_19 : zcells Tryz.prog 19 = some [.pointer none] := by kernel_rfl
@[simp] theorem tag_20 : tag Tryz.prog 20 = some false := by kernel_rfl
@[simp] theorem tsz_20 : tsz Tryz.prog 20 = some 1 := by kernel_rfl
@[simp] theorem byt_20 : byt Tryz.prog 20 = some 16 := by kernel_rfl
@[simp] theorem elt_20 : elt Tryz.prog 20 = none := by kernel_rfl
@[simp] theorem zc_20 : zcells Tryz.prog 20 = some [.nilIface] := by kernel_rfl
@[simp] theorem tag_21 : tag Tryz.prog 21 = some false := by kernel_rfl
@[simp] theorem tsz_21 : tsz Tryz.prog 21 = some 1 := by kernel_rfl
@[simp] theorem byt_21 : byt Tryz.prog 21 = some 4 := by kernel_rfl
@[simp] theorem elt_21 : elt Tryz.prog 21 = none := by kernel_rfl
@[simp] theorem tint_21 : tint Tryz.prog 21 = some .i32 := by kernel_rfl
@[simp] theorem und_21 : Program.underlying Tryz.prog 21 = some (.int .i32) := by kernel_rfl
@[simp] theorem zc_21 : zcells Tryz.prog 21 = some [.int .i32 (0)] := by kernel_rfl
@[simp] theorem tag_22 : tag Tryz.prog 22 = some false := by kernel_rfl
@[simp] theorem tsz_22 : tsz Tryz.prog 22 = some 1 := by kernel_rfl
@[simp] theorem byt_22 : byt Tryz.prog 22 = some 24 := by kernel_rfl
@[simp] theorem elt_22 : elt Tryz.prog 22 = some 65 := by kernel_rfl
@[simp] theorem zc_22 : zcells Tryz.prog 22 = some [.slice none 0 0] := by kernel_rfl
@[simp] theorem tag_23 : tag Tryz.prog 23 = some false := by kernel_rfl
@[simp] theorem tsz_23 : tsz Tryz.prog 23 = some 1 := by kernel_rfl
@[simp] theorem byt_23 : byt Tryz.prog 23 = some 24 := by kernel_rfl
@[simp] theorem elt_23 : elt Tryz.prog 23 = some 85 := by kernel_rfl
@[simp] theorem zc_23 : zcells Tryz.prog 23 = some [.slice none 0 0] := by kernel_rfl
@[simp] theorem tag_24 : tag Tryz.prog 24 = some true := by kernel_rfl
@[simp] theorem tsz_24 : tsz Tryz.prog 24 = some 2 := by kernel_rfl
@[simp] theorem byt_24 : byt Tryz.prog 24 = some 48 := by kernel_rfl
@[simp] theorem elt_24 : elt Tryz.prog 24 = none := by kernel_rfl
@[simp] theorem foff_24_0 : foff Tryz.prog 24 0 = some (0, 1) := by kernel_rfl
@[simp] theorem fone_24_0 : fone Tryz.prog 24 0 = some 0 := by kernel_rfl
@[simp] theorem foff_24_1 : foff Tryz.prog 24 1 = some (1, 1) := by kernel_rfl
@[simp] theorem fone_24_1 : fone Tryz.prog 24 1 = some 1 := by kernel_rfl
@[simp] theorem places_24 : places Tryz.prog 24 = some [(0, 1), (1, 1)] := by kernel_rfl
@[simp] theorem zc_24 : zcells Tryz.prog 24 = some [.slice none 0 0, .slice none 0 0] := by kernel_rfl
@[simp] theorem tag_25 : tag Tryz.prog 25 = some true := by kernel_rfl
@[simp] theorem tsz_25 : tsz Tryz.prog 25 = some 2 := by kernel_rfl
@[simp] theorem byt_25 : byt Tryz.prog 25 = some 48 := by kernel_rfl
@[simp] theorem elt_25 : elt Tryz.prog 25 = none := by kernel_rfl
@[simp] theorem foff_25_0 : foff Tryz.prog 25 0 = some (0, 1) := by kernel_rfl
@[simp] theorem fone_25_0 : fone Tryz.prog 25 0 = some 0 := by kernel_rfl
@[simp] theorem foff_25_1 : foff Tryz.prog 25 1 = some (1, 1) := by kernel_rfl
@[simp] theorem fone_25_1 : fone Tryz.prog 25 1 = some 1 := by kernel_rfl
@[simp] theorem places_25 : places Tryz.prog 25 = some [(0, 1), (1, 1)] := by kernel_rfl
@[simp] theorem zc_25 : zcells Tryz.prog 25 = some [.slice none 0 0, .slice none 0 0] := by kernel_rfl
@[simp] theorem tag_26 : tag Tryz.prog 26 = some false := by kernel_rfl
@[simp] theorem tsz_26 : tsz Tryz.prog 26 = some 1 := by kernel_rfl
@[simp] theorem byt_26 : byt Tryz.prog 26 = some 24 := by kernel_rfl
@[simp] theorem elt_26 : elt Tryz.prog 26 = some 39 := by kernel_rfl
@[simp] theorem zc_26 : zcells Tryz.prog 26 = some [.slice none 0 0] := by kernel_rfl
@[simp] theorem tag_27 : tag Tryz.prog 27 = some true := by kernel_rfl
@[simp] theorem tsz_27 : tsz Tryz.prog 27 = some 4 := by kernel_rfl
@[simp] theorem byt_27 : byt Tryz.prog 27 = some 80 := by kernel_rfl
@[simp] theorem elt_27 : elt Tryz.prog 27 = none := by kernel_rfl
@[simp] theorem foff_27_0 : foff Tryz.prog 27 0 = some (0, 2) := by kernel_rfl
@[simp] theorem foff_27_1 : foff Tryz.prog 27 1 = some (2, 1) := by kernel_rfl
@[simp] theorem fone_27_1 : fone Tryz.prog 27 1 = some 2 := by kernel_rfl
@[simp] theorem foff_27_2 : foff Tryz.prog 27 2 = some (3, 1) := by kernel_rfl
@[simp] theorem fone_27_2 : fone Tryz.prog 27 2 = some 3 := by kernel_rfl
@[simp] theorem places_27 : places Tryz.prog 27 = some [(0, 2), (2, 1), (3, 1)] := by kernel_rfl
@[simp] theorem zc_27 : zcells Tryz.prog 27 = some [.slice none 0 0, .slice none 0 0, .int .i64 (0), .slice none 0 0] := by kernel_rfl
@[simp] theorem tag_28 : tag Tryz.prog 28 = some true := by kernel_rfl
@[simp] theorem tsz_28 : tsz Tryz.prog 28 = some 4 := by kernel_rfl
@[simp] theorem byt_28 : byt Tryz.prog 28 = some 80 := by kernel_rfl
@[simp] theorem elt_28 : elt Tryz.prog 28 = none := by kernel_rfl
@[simp] theorem foff_28_0 : foff Tryz.prog 28 0 = some (0, 2) := by kernel_rfl
@[simp] theorem foff_28_1 : foff Tryz.prog 28 1 = some (2, 1) := by kernel_rfl
@[simp] theorem fone_28_1 : fone Tryz.prog 28 1 = some 2 := by kernel_rfl
@[simp] theorem foff_28_2 : foff Tryz.prog 28 2 = some (3, 1) := by kernel_rfl
@[simp] theorem fone_28_2 : fone Tryz.prog 28 2 = some 3 := by kernel_rfl
@[simp] theorem places_28 : places Tryz.prog 28 = some [(0, 2), (2, 1), (3, 1)] := by kernel_rfl
@[simp] theorem zc_28 : zcells Tryz.prog 28 = some [.slice none 0 0, .slice none 0 0, .int .i64 (0), .slice none 0 0] := by kernel_rfl
@[simp] theorem tag_29 : tag Tryz.prog 29 = some false := by kernel_rfl
@[simp] theorem tsz_29 : tsz Tryz.prog 29 = some 1 := by kernel_rfl
@[simp] theorem byt_29 : byt Tryz.prog 29 = some 1 := by kernel_rfl
@[simp] theorem elt_29 : elt Tryz.prog 29 = none := by kernel_rfl
@[simp] theorem tint_29 : tint Tryz.prog 29 = some .u8 := by kernel_rfl
@[simp] theorem und_29 : Program.underlying Tryz.prog 29 = some (.int .u8) := by kernel_rfl
@[simp] theorem zc_29 : zcells Tryz.prog 29 = some [.int .u8 (0)] := by kernel_rfl
@[simp] theorem tag_30 : tag Tryz.prog 30 = some false := by kernel_rfl
@[simp] theorem tsz_30 : tsz Tryz.prog 30 = some 1 := by kernel_rfl
@[simp] theorem byt_30 : byt Tryz.prog 30 = some 8 := by kernel_rfl
@[simp] theorem elt_30 : elt Tryz.prog 30 = none := by kernel_rfl
@[simp] theorem tint_30 : tint Tryz.prog 30 = some .u64 := by kernel_rfl
@[simp] theorem und_30 : Program.underlying Tryz.prog 30 = some (.int .u64) := by kernel_rfl
@[simp] theorem zc_30 : zcells Tryz.prog 30 = some [.int .u64 (0)] := by kernel_rfl
@[simp] theorem tag_31 : tag Tryz.prog 31 = some true := by kernel_rfl
@[simp] theorem tsz_31 : tsz Tryz.prog 31 = some 2 := by kernel_rfl
@[simp] theorem byt_31 : byt Tryz.prog 31 = some 16 := by kernel_rfl
@[simp] theorem elt_31 : elt Tryz.prog 31 = none := by kernel_rfl
@[simp] theorem foff_31_0 : foff Tryz.prog 31 0 = some (0, 1) := by kernel_rfl
@[simp] theorem fone_31_0 : fone Tryz.prog 31 0 = some 0 := by kernel_rfl
@[simp] theorem foff_31_1 : foff Tryz.prog 31 1 = some (1, 1) := by kernel_rfl
@[simp] theorem fone_31_1 : fone Tryz.prog 31 1 = some 1 := by kernel_rfl
@[simp] theorem places_31 : places Tryz.prog 31 = some [(0, 1), (1, 1)] := by kernel_rfl
@[simp] theorem eqg_31 : Program.eqGuardType Tryz.prog Tryz.prog.depth 31 = false := by kernel_rfl
@[simp] theorem eqT_31 (x0 y0 : Int) (x1 y1 : Int) : eqT Tryz.prog 10 31 (.agg [.im (.sc (.int .u64 x0)), .im (.sc (.int .u64 x1))]) (.agg [.im (.sc (.int .u64 y0)), .im (.sc (.int .u64 y1))]) = some ((x0 == y0) && ((x1 == y1) && true)) := by kernel_rfl
@[simp] theorem zc_31 : zcells Tryz.prog 31 = some [.int .u64 (0), .int .u64 (0)] := by kernel_rfl
@[simp] theorem tag_32 : tag Tryz.prog 32 = some true := by kernel_rfl
@[simp] theorem tsz_32 : tsz Tryz.prog 32 = some 2 := by kernel_rfl
@[simp] theorem byt_32 : byt Tryz.prog 32 = some 16 := by kernel_rfl
@[simp] theorem elt_32 : elt Tryz.prog 32 = none := by kernel_rfl
@[simp] theorem foff_32_0 : foff Tryz.prog 32 0 = some (0, 1) := by kernel_rfl
@[simp] theorem fone_32_0 : fone Tryz.prog 32 0 = some 0 := by kernel_rfl
@[simp] theorem foff_32_1 : foff Tryz.prog 32 1 = some (1, 1) := by kernel_rfl
@[simp] theorem fone_32_1 : fone Tryz.prog 32 1 = some 1 := by kernel_rfl
@[simp] theorem places_32 : places Tryz.prog 32 = some [(0, 1), (1, 1)] := by kernel_rfl
@[simp] theorem eqg_32 : Program.eqGuardType Tryz.prog Tryz.prog.depth 32 = false := by kernel_rfl
@[simp] theorem eqT_32 (x0 y0 : Int) (x1 y1 : Int) : eqT Tryz.prog 10 32 (.agg [.im (.sc (.int .u64 x0)), .im (.sc (.int .u64 x1))]) (.agg [.im (.sc (.int .u64 y0)), .im (.sc (.int .u64 y1))]) = some ((x0 == y0) && ((x1 == y1) && true)) := by kernel_rfl
@[simp] theorem zc_32 : zcells Tryz.prog 32 = some [.int .u64 (0), .int .u64 (0)] := by kernel_rfl
@[simp] theorem tag_33 : tag Tryz.prog 33 = some true := by kernel_rfl
@[simp] theorem tsz_33 : tsz Tryz.prog 33 = some 4 := by kernel_rfl
@[simp] theorem byt_33 : byt Tryz.prog 33 = some 32 := by kernel_rfl
@[simp] theorem elt_33 : elt Tryz.prog 33 = none := by kernel_rfl
@[simp] theorem foff_33_0 : foff Tryz.prog 33 0 = some (0, 1) := by kernel_rfl
@[simp] theorem fone_33_0 : fone Tryz.prog 33 0 = some 0 := by kernel_rfl
@[simp] theorem foff_33_1 : foff Tryz.prog 33 1 = some (1, 2) := by kernel_rfl
@[simp] theorem foff_33_2 : foff Tryz.prog 33 2 = some (3, 1) := by kernel_rfl
@[simp] theorem fone_33_2 : fone Tryz.prog 33 2 = some 3 := by kernel_rfl
@[simp] theorem places_33 : places Tryz.prog 33 = some [(0, 1), (1, 2), (3, 1)] := by kernel_rfl
@[simp] theorem eqg_33 : Program.eqGuardType Tryz.prog Tryz.prog.depth 33 = false := by kernel_rfl
@[simp] theorem eqT_33 (x0 y0 : Bool) (x1 y1 : Int) (x2 y2 : Int) (x3 y3 : Int) : eqT Tryz.prog 10 33 (.agg [.im (.sc (.bool x0)), .im (.sc (.int .u64 x1)), .im (.sc (.int .u64 x2)), .im (.sc (.int .i64 x3))]) (.agg [.im (.sc (.bool y0)), .im (.sc (.int .u64 y1)), .im (.sc (.int .u64 y2)), .im (.sc (.int .i64 y3))]) = some ((x0 == y0) && (((x1 == y1) && ((x2 == y2) && true)) && ((x3 == y3) && true))) := by kernel_rfl
@[simp] theorem zc_33 : zcells Tryz.prog 33 = some [.bool false, .int .u64 (0), .int .u64 (0), .int .i64 (0)] := by kernel_rfl
@[simp] theorem tag_34 : tag Tryz.prog 34 = some true := by kernel_rfl
@[simp] theorem tsz_34 : tsz Tryz.prog 34 = some 4 := by kernel_rfl
@[simp] theorem byt_34 : byt Tryz.prog 34 = some 32 := by kernel_rfl
@[simp] theorem elt_34 : elt Tryz.prog 34 = none := by kernel_rfl
@[simp] theorem foff_34_0 : foff Tryz.prog 34 0 = some (0, 1) := by kernel_rfl
@[simp] theorem fone_34_0 : fone Tryz.prog 34 0 = some 0 := by kernel_rfl
@[simp] theorem foff_34_1 : foff Tryz.prog 34 1 = some (1, 2) := by kernel_rfl
@[simp] theorem foff_34_2 : foff Tryz.prog 34 2 = some (3, 1) := by kernel_rfl
@[simp] theorem fone_34_2 : fone Tryz.prog 34 2 = some 3 := by kernel_rfl
@[simp] theorem places_34 : places Tryz.prog 34 = some [(0, 1), (1, 2), (3, 1)] := by kernel_rfl
@[simp] theorem eqg_34 : Program.eqGuardType Tryz.prog Tryz.prog.depth 34 = false := by kernel_rfl
@[simp] theorem eqT_34 (x0 y0 : Bool) (x1 y1 : Int) (x2 y2 : Int) (x3 y3 : Int) : eqT Tryz.prog 10 34 (.agg [.im (.sc (.bool x0)), .im (.sc (.int .u64 x1)), .im (.sc (.int .u64 x2)), .im (.sc (.int .i64 x3))]) (.agg [.im (.sc (.bool y0)), .im (.sc (.int .u64 y1)), .im (.sc (.int .u64 y2)), .im (.sc (.int .i64 y3))]) = some ((x0 == y0) && (((x1 == y1) && ((x2 == y2) && true)) && ((x3 == y3) && true))) := by kernel_rfl
@[simp] theorem zc_34 : zcells Tryz.prog 34 = some [.bool false, .int .u64 (0), .int .u64 (0), .int .i64 (0)] := by kernel_rfl
@[simp] theorem tag_35 : tag Tryz.prog 35 = some false := by kernel_rfl
@[simp] theorem tsz_35 : tsz Tryz.prog 35 = some 1 := by kernel_rfl
@[simp] theorem byt_35 : byt Tryz.prog 35 = some 1 := by kernel_rfl
@[simp] theorem elt_35 : elt Tryz.prog 35 = none := by kernel_rfl
@[simp] theorem tint_35 : tint Tryz.prog 35 = some .u8 := by kernel_rfl
@[simp] theorem und_35 : Program.underlying Tryz.prog 35 = some (.int .u8) := by kernel_rfl
@[simp] theorem zc_35 : zcells Tryz.prog 35 = some [.int .u8 (0)] := by kernel_rfl
@[simp] theorem tag_36 : tag Tryz.prog 36 = some true := by kernel_rfl
@[simp] theorem tsz_36 : tsz Tryz.prog 36 = some 2 := by kernel_rfl
@[simp] theorem byt_36 : byt Tryz.prog 36 = some 16 := by kernel_rfl
@[simp] theorem elt_36 : elt Tryz.prog 36 = none := by kernel_rfl
@[simp] theorem foff_36_0 : foff Tryz.prog 36 0 = some (0, 1) := by kernel_rfl
@[simp] theorem fone_36_0 : fone Tryz.prog 36 0 = some 0 := by kernel_rfl
@[simp] theorem foff_36_1 : foff Tryz.prog 36 1 = some (1, 1) := by kernel_rfl
@[simp] theorem fone_36_1 : fone Tryz.prog 36 1 = some 1 := by kernel_rfl
@[simp] theorem places_36 : places Tryz.prog 36 = some [(0, 1), (1, 1)] := by kernel_rfl
@[simp] theorem eqg_36 : Program.eqGuardType Tryz.prog Tryz.prog.depth 36 = false := by kernel_rfl
@[simp] theorem eqT_36 (x0 y0 : Int) (x1 y1 : Int) : eqT Tryz.prog 10 36 (.agg [.im (.sc (.int .u8 x0)), .im (.sc (.int .i64 x1))]) (.agg [.im (.sc (.int .u8 y0)), .im (.sc (.int .i64 y1))]) = some ((x0 == y0) && ((x1 == y1) && true)) := by kernel_rfl
@[simp] theorem zc_36 : zcells Tryz.prog 36 = some [.int .u8 (0), .int .i64 (0)] := by kernel_rfl
@[simp] theorem tag_37 : tag Tryz.prog 37 = some true := by kernel_rfl
@[simp] theorem tsz_37 : tsz Tryz.prog 37 = some 2 := by kernel_rfl
@[simp] theorem byt_37 : byt Tryz.prog 37 = some 16 := by kernel_rfl
@[simp] theorem elt_37 : elt Tryz.prog 37 = none := by kernel_rfl
@[simp] theorem foff_37_0 : foff Tryz.prog 37 0 = some (0, 1) := by kernel_rfl
@[simp] theorem fone_37_0 : fone Tryz.prog 37 0 = some 0 := by kernel_rfl
@[simp] theorem foff_37_1 : foff Tryz.prog 37 1 = some (1, 1) := by kernel_rfl
@[simp] theorem fone_37_1 : fone Tryz.prog 37 1 = some 1 := by kernel_rfl
@[simp] theorem places_37 : places Tryz.prog 37 = some [(0, 1), (1, 1)] := by kernel_rfl
@[simp] theorem eqg_37 : Program.eqGuardType Tryz.prog Tryz.prog.depth 37 = false := by kernel_rfl
@[simp] theorem eqT_37 (x0 y0 : Int) (x1 y1 : Int) : eqT Tryz.prog 10 37 (.agg [.im (.sc (.int .u8 x0)), .im (.sc (.int .i64 x1))]) (.agg [.im (.sc (.int .u8 y0)), .im (.sc (.int .i64 y1))]) = some ((x0 == y0) && ((x1 == y1) && true)) := by kernel_rfl
@[simp] theorem zc_37 : zcells Tryz.prog 37 = some [.int .u8 (0), .int .i64 (0)] := by kernel_rfl
@[simp] theorem tag_38 : tag Tryz.prog 38 = some true := by kernel_rfl
@[simp] theorem tsz_38 : tsz Tryz.prog 38 = some 12 := by kernel_rfl
@[simp] theorem byt_38 : byt Tryz.prog 38 = some 96 := by kernel_rfl
@[simp] theorem elt_38 : elt Tryz.prog 38 = none := by kernel_rfl
@[simp] theorem foff_38_0 : foff Tryz.prog 38 0 = some (0, 1) := by kernel_rfl
@[simp] theorem fone_38_0 : fone Tryz.prog 38 0 = some 0 := by kernel_rfl
@[simp] theorem foff_38_1 : foff Tryz.prog 38 1 = some (1, 1) := by kernel_rfl
@[simp] theorem fone_38_1 : fone Tryz.prog 38 1 = some 1 := by kernel_rfl
@[simp] theorem foff_38_2 : foff Tryz.prog 38 2 = some (2, 1) := by kernel_rfl
@[simp] theorem fone_38_2 : fone Tryz.prog 38 2 = some 2 := by kernel_rfl
@[simp] theorem foff_38_3 : foff Tryz.prog 38 3 = some (3, 1) := by kernel_rfl
@[simp] theorem fone_38_3 : fone Tryz.prog 38 3 = some 3 := by kernel_rfl
@[simp] theorem foff_38_4 : foff Tryz.prog 38 4 = some (4, 4) := by kernel_rfl
@[simp] theorem foff_38_5 : foff Tryz.prog 38 5 = some (8, 2) := by kernel_rfl
@[simp] theorem foff_38_6 : foff Tryz.prog 38 6 = some (10, 1) := by kernel_rfl
@[simp] theorem fone_38_6 : fone Tryz.prog 38 6 = some 10 := by kernel_rfl
@[simp] theorem foff_38_7 : foff Tryz.prog 38 7 = some (11, 1) := by kernel_rfl
@[simp] theorem fone_38_7 : fone Tryz.prog 38 7 = some 11 := by kernel_rfl
@[simp] theorem places_38 : places Tryz.prog 38 = some [(0, 1), (1, 1), (2, 1), (3, 1), (4, 4), (8, 2), (10, 1), (11, 1)] := by kernel_rfl
@[simp] theorem eqg_38 : Program.eqGuardType Tryz.prog Tryz.prog.depth 38 = false := by kernel_rfl
@[simp] theorem eqT_38 (x0 y0 : Int) (x1 y1 : Int) (x2 y2 : Int) (x3 y3 : Int) (x4 y4 : Bool) (x5 y5 : Int) (x6 y6 : Int) (x7 y7 : Int) (x8 y8 : Int) (x9 y9 : Int) (x10 y10 : Int) (x11 y11 : Int) : eqT Tryz.prog 10 38 (.agg [.im (.sc (.int .u8 x0)), .im (.sc (.int .i64 x1)), .im (.sc (.int .u64 x2)), .im (.sc (.int .i64 x3)), .im (.sc (.bool x4)), .im (.sc (.int .u64 x5)), .im (.sc (.int .u64 x6)), .im (.sc (.int .i64 x7)), .im (.sc (.int .u8 x8)), .im (.sc (.int .i64 x9)), .im (.sc (.int .i64 x10)), .im (.sc (.int .i64 x11))]) (.agg [.im (.sc (.int .u8 y0)), .im (.sc (.int .i64 y1)), .im (.sc (.int .u64 y2)), .im (.sc (.int .i64 y3)), .im (.sc (.bool y4)), .im (.sc (.int .u64 y5)), .im (.sc (.int .u64 y6)), .im (.sc (.int .i64 y7)), .im (.sc (.int .u8 y8)), .im (.sc (.int .i64 y9)), .im (.sc (.int .i64 y10)), .im (.sc (.int .i64 y11))]) = some ((x0 == y0) && ((x1 == y1) && ((x2 == y2) && ((x3 == y3) && (((x4 == y4) && (((x5 == y5) && ((x6 == y6) && true)) && ((x7 == y7) && true))) && (((x8 == y8) && ((x9 == y9) && true)) && ((x10 == y10) && ((x11 == y11) && true)))))))) := by kernel_rfl
@[simp] theorem zc_38 : zcells Tryz.prog 38 = some [.int .u8 (0), .int .i64 (0), .int .u64 (0), .int .i64 (0), .bool false, .int .u64 (0), .int .u64 (0), .int .i64 (0), .int .u8 (0), .int .i64 (0), .int .i64 (0), .int .i64 (0)] := by kernel_rfl
@[simp] theorem tag_39 : tag Tryz.prog 39 = some true := by kernel_rfl
@[simp] theorem tsz_39 : tsz Tryz.prog 39 = some 12 := by kernel_rfl
@[simp] theorem byt_39 : byt Tryz.prog 39 = some 96 := by kernel_rfl
@[simp] theorem elt_39 : elt Tryz.prog 39 = none := by kernel_rfl
@[simp] theorem foff_39_0 : foff Tryz.prog 39 0 = some (0, 1) := by kernel_rfl
@[simp] theorem fone_39_0 : fone Tryz.prog 39 0 = some 0 := by kernel_rfl
@[simp] theorem foff_39_1 : foff Tryz.prog 39 1 = some (1, 1) := by kernel_rfl
@[simp] theorem fone_39_1 : fone Tryz.prog 39 1 = some 1 := by kernel_rfl
@[simp] theorem foff_39_2 : foff Tryz.prog 39 2 = some (2, 1) := by kernel_rfl
@[simp] theorem fone_39_2 : fone Tryz.prog 39 2 = some 2 := by kernel_rfl
@[simp] theorem foff_39_3 : foff Tryz.prog 39 3 = some (3, 1) := by kernel_rfl
@[simp] theorem fone_39_3 : fone Tryz.prog 39 3 = some 3 := by kernel_rfl
@[simp] theorem foff_39_4 : foff Tryz.prog 39 4 = some (4, 4) := by kernel_rfl
@[simp] theorem foff_39_5 : foff Tryz.prog 39 5 = some (8, 2) := by kernel_rfl
@[simp] theorem foff_39_6 : foff Tryz.prog 39 6 = some (10, 1) := by kernel_rfl
@[simp] theorem fone_39_6 : fone Tryz.prog 39 6 = some 10 := by kernel_rfl
@[simp] theorem foff_39_7 : foff Tryz.prog 39 7 = some (11, 1) := by kernel_rfl
@[simp] theorem fone_39_7 : fone Tryz.prog 39 7 = some 11 := by kernel_rfl
@[simp] theorem places_39 : places Tryz.prog 39 = some [(0, 1), (1, 1), (2, 1), (3, 1), (4, 4), (8, 2), (10, 1), (11, 1)] := by kernel_rfl
@[simp] theorem eqg_39 : Program.eqGuardType Tryz.prog Tryz.prog.depth 39 = false := by kernel_rfl
@[simp] theorem eqT_39 (x0 y0 : Int) (x1 y1 : Int) (x2 y2 : Int) (x3 y3 : Int) (x4 y4 : Bool) (x5 y5 : Int) (x6 y6 : Int) (x7 y7 : Int) (x8 y8 : Int) (x9 y9 : Int) (x10 y10 : Int) (x11 y11 : Int) : eqT Tryz.prog 10 39 (.agg [.im (.sc (.int .u8 x0)), .im (.sc (.int .i64 x1)), .im (.sc (.int .u64 x2)), .im (.sc (.int .i64 x3)), .im (.sc (.bool x4)), .im (.sc (.int .u64 x5)), .im (.sc (.int .u64 x6)), .im (.sc (.int .i64 x7)), .im (.sc (.int .u8 x8)), .im (.sc (.int .i64 x9)), .im (.sc (.int .i64 x10)), .im (.sc (.int .i64 x11))]) (.agg [.im (.sc (.int .u8 y0)), .im (.sc (.int .i64 y1)), .im (.sc (.int .u64 y2)), .im (.sc (.int .i64 y3)), .im (.sc (.bool y4)), .im (.sc (.int .u64 y5)), .im (.sc (.int .u64 y6)), .im (.sc (.int .i64 y7)), .im (.sc (.int .u8 y8)), .im (.sc (.int .i64 y9)), .im (.sc (.int .i64 y10)), .im (.sc (.int .i64 y11))]) = some ((x0 == y0) && ((x1 == y1) && ((x2 == y2) && ((x3 == y3) && (((x4 == y4) && (((x5 == y5) && ((x6 == y6) && true)) && ((x7 == y7) && true))) && (((x8 == y8) && ((x9 == y9) && true)) && ((x10 == y10) && ((x11 == y11) && true)))))))) := by kernel_rfl
@[simp] theorem zc_39 : zcells Tryz.prog 39 = some [.int .u8 (0), .int .i64 (0), .int .u64 (0), .int .i64 (0), .bool false, .int .u64 (0), .int .u64 (0), .int .i64 (0), .int .u8 (0), .int .i64 (0), .int .i64 (0), .int .i64 (0)] := by kernel_rfl
@[simp] theorem tag_40 : tag Tryz.prog 40 = some false := by kernel_rfl
@[simp] theorem tsz_40 : tsz Tryz.prog 40 = some 1 := by kernel_rfl
@[simp] theorem byt_40 : byt Tryz.prog 40 = some 8 := by kernel_rfl
@[simp] theorem elt_40 : elt Tryz.prog 40 = none := by kernel_rfl
@[simp] theorem zc_40 : zcells Tryz.prog 40 = some [.nilFunc] := by kernel_rfl
@[simp] theorem tag_41 : tag Tryz.prog 41 = some false := by kernel_rfl
@[simp] theorem tsz_41 : tsz Tryz.prog 41 = some 1 := by kernel_rfl
@[simp] theorem byt_41 : byt Tryz.prog 41 = some 8 := by kernel_rfl
@[simp] theorem elt_41 : elt Tryz.prog 41 = none := by kernel_rfl
@[simp] theorem tint_41 : tint Tryz.prog 41 = some .i64 := by kernel_rfl
@[simp] theorem und_41 : Program.underlying Tryz.prog 41 = some (.int .i64) := by kernel_rfl
@[simp] theorem zc_41 : zcells Tryz.prog 41 = some [.int .i64 (0)] := by kernel_rfl
@[simp] theorem tag_42 : tag Tryz.prog 42 = some false := by kernel_rfl
@[simp] theorem tsz_42 : tsz Tryz.prog 42 = some 1 := by kernel_rfl
@[simp] theorem byt_42 : byt Tryz.prog 42 = some 0 := by kernel_rfl
@[simp] theorem elt_42 : elt Tryz.prog 42 = none := by kernel_rfl
@[simp] theorem tag_43 : tag Tryz.prog 43 = some false := by kernel_rfl
@[simp] theorem tsz_43 : tsz Tryz.prog 43 = some 1 := by kernel_rfl
@[simp] theorem byt_43 : byt Tryz.prog 43 = some 8 := by kernel_rfl
@[simp] theorem elt_43 : elt Tryz.prog 43 = none := by kernel_rfl
@[simp] theorem zc_43 : zcells Tryz.prog 43 = some [.nilFunc] := by kernel_rfl
@[simp] theorem tag_44 : tag Tryz.prog 44 = some false := by kernel_rfl
@[simp] theorem tsz_44 : tsz Tryz.prog 44 = some 1 := by kernel_rfl
@[simp] theorem byt_44 : byt Tryz.prog 44 = some 8 := by kernel_rfl
@[simp] theorem elt_44 : elt Tryz.prog 44 = none := by kernel_rfl
@[simp] theorem zc_44 : zcells Tryz.prog 44 = some [.nilFunc] := by kernel_rfl
@[simp] theorem tag_45 : tag Tryz.prog 45 = some false := by kernel_rfl
@[simp] theorem tsz_45 : tsz Tryz.prog 45 = some 1 := by kernel_rfl
@[simp] theorem byt_45 : byt Tryz.prog 45 = some 0 := by kernel_rfl
@[simp] theorem elt_45 : elt Tryz.prog 45 = none := by kernel_rfl
@[simp] theorem tag_46 : tag Tryz.prog 46 = some false := by kernel_rfl
@[simp] theorem tsz_46 : tsz Tryz.prog 46 = some 1 := by kernel_rfl
@[simp] theorem byt_46 : byt Tryz.prog 46 = some 8 := by kernel_rfl
@[simp] theorem elt_46 : elt Tryz.prog 46 = none := by kernel_rfl
@[simp] theorem zc_46 : zcells Tryz.prog 46 = some [.nilFunc] := by kernel_rfl
@[simp] theorem tag_47 : tag Tryz.prog 47 = some false := by kernel_rfl
@[simp] theorem tsz_47 : tsz Tryz.prog 47 = some 1 := by kernel_rfl
@[simp] theorem byt_47 : byt Tryz.prog 47 = some 8 := by kernel_rfl
@[simp] theorem elt_47 : elt Tryz.prog 47 = none := by kernel_rfl
@[simp] theorem zc_47 : zcells Tryz.prog 47 = some [.nilFunc] := by kernel_rfl
@[simp] theorem tag_48 : tag Tryz.prog 48 = some false := by kernel_rfl
@[simp] theorem tsz_48 : tsz Tryz.prog 48 = some 1 := by kernel_rfl
@[simp] theorem byt_48 : byt Tryz.prog 48 = some 8 := by kernel_rfl
@[simp] theorem elt_48 : elt Tryz.prog 48 = none := by kernel_rfl
@[simp] theorem zc_48 : zcells Tryz.prog 48 = some [.nilFunc] := by kernel_rfl
@[simp] theorem tag_49 : tag Tryz.prog 49 = some false := by kernel_rfl
@[simp] theorem tsz_49 : tsz Tryz.prog 49 = some 1 := by kernel_rfl
@[simp] theorem byt_49 : byt Tryz.prog 49 = some 8 := by kernel_rfl
@[simp] theorem elt_49 : elt Tryz.prog 49 = none := by kernel_rfl
@[simp] theorem zc_49 : zcells Tryz.prog 49 = some [.nilFunc] := by kernel_rfl
@[simp] theorem tag_50 : tag Tryz.prog 50 = some false := by kernel_rfl
@[simp] theorem tsz_50 : tsz Tryz.prog 50 = some 1 := by kernel_rfl
@[simp] theorem byt_50 : byt Tryz.prog 50 = some 8 := by kernel_rfl
@[simp] theorem elt_50 : elt Tryz.prog 50 = none := by kernel_rfl
@[simp] theorem zc_50 : zcells Tryz.prog 50 = some [.nilFunc] := by kernel_rfl
@[simp] theorem tag_51 : tag Tryz.prog 51 = some false := by kernel_rfl
@[simp] theorem tsz_51 : tsz Tryz.prog 51 = some 1 := by kernel_rfl
@[simp] theorem byt_51 : byt Tryz.prog 51 = some 8 := by kernel_rfl
@[simp] theorem elt_51 : elt Tryz.prog 51 = none := by kernel_rfl
@[simp] theorem zc_51 : zcells Tryz.prog 51 = some [.nilFunc] := by kernel_rfl
@[simp] theorem tag_52 : tag Tryz.prog 52 = some true := by kernel_rfl
@[simp] theorem tsz_52 : tsz Tryz.prog 52 = some 2 := by kernel_rfl
@[simp] theorem byt_52 : byt Tryz.prog 52 = some 16 := by kernel_rfl
@[simp] theorem elt_52 : elt Tryz.prog 52 = none := by kernel_rfl
@[simp] theorem foff_52_0 : foff Tryz.prog 52 0 = some (0, 1) := by kernel_rfl
@[simp] theorem fone_52_0 : fone Tryz.prog 52 0 = some 0 := by kernel_rfl
@[simp] theorem foff_52_1 : foff Tryz.prog 52 1 = some (1, 1) := by kernel_rfl
@[simp] theorem fone_52_1 : fone Tryz.prog 52 1 = some 1 := by kernel_rfl
@[simp] theorem places_52 : places Tryz.prog 52 = some [(0, 1), (1, 1)] := by kernel_rfl
@[simp] theorem eqg_52 : Program.eqGuardType Tryz.prog Tryz.prog.depth 52 = false := by kernel_rfl
@[simp] theorem eqT_52 (x0 y0 : Int) (x1 y1 : Int) : eqT Tryz.prog 10 52 (.agg [.im (.sc (.int .i64 x0)), .im (.sc (.int .i64 x1))]) (.agg [.im (.sc (.int .i64 y0)), .im (.sc (.int .i64 y1))]) = some ((x0 == y0) && ((x1 == y1) && true)) := by kernel_rfl
@[simp] theorem zc_52 : zcells Tryz.prog 52 = some [.int .i64 (0), .int .i64 (0)] := by kernel_rfl
@[simp] theorem tag_53 : tag Tryz.prog 53 = some true := by kernel_rfl
@[simp] theorem tsz_53 : tsz Tryz.prog 53 = some 2 := by kernel_rfl
@[simp] theorem byt_53 : byt Tryz.prog 53 = some 16 := by kernel_rfl
@[simp] theorem elt_53 : elt Tryz.prog 53 = none := by kernel_rfl
@[simp] theorem foff_53_0 : foff Tryz.prog 53 0 = some (0, 1) := by kernel_rfl
@[simp] theorem fone_53_0 : fone Tryz.prog 53 0 = some 0 := by kernel_rfl
@[simp] theorem foff_53_1 : foff Tryz.prog 53 1 = some (1, 1) := by kernel_rfl
@[simp] theorem fone_53_1 : fone Tryz.prog 53 1 = some 1 := by kernel_rfl
@[simp] theorem places_53 : places Tryz.prog 53 = some [(0, 1), (1, 1)] := by kernel_rfl
@[simp] theorem eqg_53 : Program.eqGuardType Tryz.prog Tryz.prog.depth 53 = false := by kernel_rfl
@[simp] theorem eqT_53 (x0 y0 : Int) (x1 y1 : Int) : eqT Tryz.prog 10 53 (.agg [.im (.sc (.int .i64 x0)), .im (.sc (.int .i64 x1))]) (.agg [.im (.sc (.int .i64 y0)), .im (.sc (.int .i64 y1))]) = some ((x0 == y0) && ((x1 == y1) && true)) := by kernel_rfl
@[simp] theorem zc_53 : zcells Tryz.prog 53 = some [.int .i64 (0), .int .i64 (0)] := by kernel_rfl
@[simp] theorem tag_54 : tag Tryz.prog 54 = some false := by kernel_rfl
@[simp] theorem tsz_54 : tsz Tryz.prog 54 = some 1 := by kernel_rfl
@[simp] theorem byt_54 : byt Tryz.prog 54 = some 0 := by kernel_rfl
@[simp] theorem elt_54 : elt Tryz.prog 54 = none := by kernel_rfl
@[simp] theorem tag_55 : tag Tryz.prog 55 = some false := by kernel_rfl
@[simp] theorem tsz_55 : tsz Tryz.prog 55 = some 1 := by kernel_rfl
@[simp] theorem byt_55 : byt Tryz.prog 55 = some 8 := by kernel_rfl
@[simp] theorem elt_55 : elt Tryz.prog 55 = none := by kernel_rfl
@[simp] theorem zc_55 : zcells Tryz.prog 55 = some [.nilFunc] := by kernel_rfl
@[simp] theorem tag_56 : tag Tryz.prog 56 = some false := by kernel_rfl
@[simp] theorem tsz_56 : tsz Tryz.prog 56 = some 1 := by kernel_rfl
@[simp] theorem byt_56 : byt Tryz.prog 56 = some 8 := by kernel_rfl
@[simp] theorem elt_56 : elt Tryz.prog 56 = none := by kernel_rfl
@[simp] theorem zc_56 : zcells Tryz.prog 56 = some [.nilFunc] := by kernel_rfl
@[simp] theorem tag_57 : tag Tryz.prog 57 = some false := by kernel_rfl
@[simp] theorem tsz_57 : tsz Tryz.prog 57 = some 1 := by kernel_rfl
@[simp] theorem byt_57 : byt Tryz.prog 57 = some 24 := by kernel_rfl
@[simp] theorem elt_57 : elt Tryz.prog 57 = some 2 := by kernel_rfl
@[simp] theorem zc_57 : zcells Tryz.prog 57 = some [.slice none 0 0] := by kernel_rfl
@[simp] theorem tag_58 : tag Tryz.prog 58 = some false := by kernel_rfl
@[simp] theorem tsz_58 : tsz Tryz.prog 58 = some 1 := by kernel_rfl
@[simp] theorem byt_58 : byt Tryz.prog 58 = some 0 := by kernel_rfl
@[simp] theorem elt_58 : elt Tryz.prog 58 = none := by kernel_rfl
@[simp] theorem tag_59 : tag Tryz.prog 59 = some false := by kernel_rfl
@[simp] theorem tsz_59 : tsz Tryz.prog 59 = some 1 := by kernel_rfl
@[simp] theorem byt_59 : byt Tryz.prog 59 = some 8 := by kernel_rfl
@[simp] theorem elt_59 : elt Tryz.prog 59 = none := by kernel_rfl
@[simp] theorem zc_59 : zcells Tryz.prog 59 = some [.nilFunc] := by kernel_rfl
@[simp] theorem tag_60 : tag Tryz.prog 60 = some false := by kernel_rfl
@[simp] theorem tsz_60 : tsz Tryz.prog 60 = some 1 := by kernel_rfl
@[simp] theorem byt_60 : byt Tryz.prog 60 = some 8 := by kernel_rfl
@[simp] theorem elt_60 : elt Tryz.prog 60 = none := by kernel_rfl
@[simp] theorem zc_60 : zcells Tryz.prog 60 = some [.nilFunc] := by kernel_rfl
@[simp] theorem tag_61 : tag Tryz.prog 61 = some false := by kernel_rfl
@[simp] theorem tsz_61 : tsz Tryz.prog 61 = some 1 := by kernel_rfl
@[simp] theorem byt_61 : byt Tryz.prog 61 = some 8 := by kernel_rfl
@[simp] theorem elt_61 : elt Tryz.prog 61 = none := by kernel_rfl
@[simp] theorem zc_61 : zcells Tryz.prog 61 = some [.nilFunc] := by kernel_rfl
@[simp] theorem tag_62 : tag Tryz.prog 62 = some false := by kernel_rfl
@[simp] theorem tsz_62 : tsz Tryz.prog 62 = some 1 := by kernel_rfl
@[simp] theorem byt_62 : byt Tryz.prog 62 = some 8 := by kernel_rfl
@[simp] theorem elt_62 : elt Tryz.prog 62 = none := by kernel_rfl
@[simp] theorem zc_62 : zcells Tryz.prog 62 = some [.nilFunc] := by kernel_rfl
@[simp] theorem tag_63 : tag Tryz.prog 63 = some false := by kernel_rfl
@[simp] theorem tsz_63 : tsz Tryz.prog 63 = some 1 := by kernel_rfl
@[simp] theorem byt_63 : byt Tryz.prog 63 = some 8 := by kernel_rfl
@[simp] theorem elt_63 : elt Tryz.prog 63 = none := by kernel_rfl
@[simp] theorem zc_63 : zcells Tryz.prog 63 = some [.nilFunc] := by kernel_rfl
@[simp] theorem tag_64 : tag Tryz.prog 64 = some true := by kernel_rfl
@[simp] theorem tsz_64 : tsz Tryz.prog 64 = some 4 := by kernel_rfl
@[simp] theorem byt_64 : byt Tryz.prog 64 = some 32 := by kernel_rfl
@[simp] theorem elt_64 : elt Tryz.prog 64 = none := by kernel_rfl
@[simp] theorem foff_64_0 : foff Tryz.prog 64 0 = some (0, 1) := by kernel_rfl
@[simp] theorem fone_64_0 : fone Tryz.prog 64 0 = some 0 := by kernel_rfl
@[simp] theorem foff_64_1 : foff Tryz.prog 64 1 = some (1, 1) := by kernel_rfl
@[simp] theorem fone_64_1 : fone Tryz.prog 64 1 = some 1 := by kernel_rfl
@[simp] theorem foff_64_2 : foff Tryz.prog 64 2 = some (2, 1) := by kernel_rfl
@[simp] theorem fone_64_2 : fone Tryz.prog 64 2 = some 2 := by kernel_rfl
@[simp] theorem foff_64_3 : foff Tryz.prog 64 3 = some (3, 1) := by kernel_rfl
@[simp] theorem fone_64_3 : fone Tryz.prog 64 3 = some 3 := by kernel_rfl
@[simp] theorem places_64 : places Tryz.prog 64 = some [(0, 1), (1, 1), (2, 1), (3, 1)] := by kernel_rfl
@[simp] theorem eqg_64 : Program.eqGuardType Tryz.prog Tryz.prog.depth 64 = false := by kernel_rfl
@[simp] theorem eqT_64 (x0 y0 : Int) (x1 y1 : Int) (x2 y2 : Int) (x3 y3 : Bool) : eqT Tryz.prog 10 64 (.agg [.im (.sc (.int .i64 x0)), .im (.sc (.int .u64 x1)), .im (.sc (.int .i64 x2)), .im (.sc (.bool x3))]) (.agg [.im (.sc (.int .i64 y0)), .im (.sc (.int .u64 y1)), .im (.sc (.int .i64 y2)), .im (.sc (.bool y3))]) = some ((x0 == y0) && ((x1 == y1) && ((x2 == y2) && ((x3 == y3) && true)))) := by kernel_rfl
@[simp] theorem zc_64 : zcells Tryz.prog 64 = some [.int .i64 (0), .int .u64 (0), .int .i64 (0), .bool false] := by kernel_rfl
@[simp] theorem tag_65 : tag Tryz.prog 65 = some true := by kernel_rfl
@[simp] theorem tsz_65 : tsz Tryz.prog 65 = some 4 := by kernel_rfl
@[simp] theorem byt_65 : byt Tryz.prog 65 = some 32 := by kernel_rfl
@[simp] theorem elt_65 : elt Tryz.prog 65 = none := by kernel_rfl
@[simp] theorem foff_65_0 : foff Tryz.prog 65 0 = some (0, 1) := by kernel_rfl
@[simp] theorem fone_65_0 : fone Tryz.prog 65 0 = some 0 := by kernel_rfl
@[simp] theorem foff_65_1 : foff Tryz.prog 65 1 = some (1, 1) := by kernel_rfl
@[simp] theorem fone_65_1 : fone Tryz.prog 65 1 = some 1 := by kernel_rfl
@[simp] theorem foff_65_2 : foff Tryz.prog 65 2 = some (2, 1) := by kernel_rfl
@[simp] theorem fone_65_2 : fone Tryz.prog 65 2 = some 2 := by kernel_rfl
@[simp] theorem foff_65_3 : foff Tryz.prog 65 3 = some (3, 1) := by kernel_rfl
@[simp] theorem fone_65_3 : fone Tryz.prog 65 3 = some 3 := by kernel_rfl
@[simp] theorem places_65 : places Tryz.prog 65 = some [(0, 1), (1, 1), (2, 1), (3, 1)] := by kernel_rfl
@[simp] theorem eqg_65 : Program.eqGuardType Tryz.prog Tryz.prog.depth 65 = false := by kernel_rfl
@[simp] theorem eqT_65 (x0 y0 : Int) (x1 y1 : Int) (x2 y2 : Int) (x3 y3 : Bool) : eqT Tryz.prog 10 65 (.agg [.im (.sc (.int .i64 x0)), .im (.sc (.int .u64 x1)), .im (.sc (.int .i64 x2)), .im (.sc (.bool x3))]) (.agg [.im (.sc (.int .i64 y0)), .im (.sc (.int .u64 y1)), .im (.sc (.int .i64 y2)), .im (.sc (.bool y3))]) = some ((x0 == y0) && ((x1 == y1) && ((x2 == y2) && ((x3 == y3) && true)))) := by kernel_rfl
@[simp] theorem zc_65 : zcells Tryz.prog 65 = some [.int .i64 (0), .int .u64 (0), .int .i64 (0), .bool false] := by kernel_rfl
@[simp] theorem tag_66 : tag Tryz.prog 66 = some false := by kernel_rfl
@[simp] theorem tsz_66 : tsz Tryz.prog 66 = some 1 := by kernel_rfl
@[simp] theorem byt_66 : byt Tryz.prog 66 = some 8 := by kernel_rfl
@[simp] theorem elt_66 : elt Tryz.prog 66 = none := by kernel_rfl
@[simp] theorem zc_66 : zcells Tryz.prog 66 = some [.nilFunc] := by kernel_rfl
@[simp] theorem tag_67 : tag Tryz.prog 67 = some false := by kernel_rfl
@[simp] theorem tsz_67 : tsz Tryz.prog 67 = some 1 := by kernel_rfl
@[simp] theorem byt_67 : byt Tryz.prog 67 = some 24 := by kernel_rfl
@[simp] theorem elt_67 : elt Tryz.prog 67 = some 32 := by kernel_rfl
@[simp] theorem zc_67 : zcells Tryz.prog 67 = some [.slice none 0 0] := by kernel_rfl
@[simp] theorem tag_68 : tag Tryz.prog 68 = some false := by kernel_rfl
@[simp] theorem tsz_68 : tsz Tryz.prog 68 = some 1 := by kernel_rfl
@[simp] theorem byt_68 : byt Tryz.prog 68 = some 0 := by kernel_rfl
@[simp] theorem elt_68 : elt Tryz.prog 68 = none := by kernel_rfl
@[simp] theorem tag_69 : tag Tryz.prog 69 = some false := by kernel_rfl
@[simp] theorem tsz_69 : tsz Tryz.prog 69 = some 1 := by kernel_rfl
@[simp] theorem byt_69 : byt Tryz.prog 69 = some 8 := by kernel_rfl
@[simp] theorem elt_69 : elt Tryz.prog 69 = none := by kernel_rfl
@[simp] theorem zc_69 : zcells Tryz.prog 69 = some [.nilFunc] := by kernel_rfl
@[simp] theorem tag_70 : tag Tryz.prog 70 = some false := by kernel_rfl
@[simp] theorem tsz_70 : tsz Tryz.prog 70 = some 1 := by kernel_rfl
@[simp] theorem byt_70 : byt Tryz.prog 70 = some 8 := by kernel_rfl
@[simp] theorem elt_70 : elt Tryz.prog 70 = none := by kernel_rfl
@[simp] theorem zc_70 : zcells Tryz.prog 70 = some [.nilFunc] := by kernel_rfl
@[simp] theorem tag_71 : tag Tryz.prog 71 = some false := by kernel_rfl
@[simp] theorem tsz_71 : tsz Tryz.prog 71 = some 1 := by kernel_rfl
@[simp] theorem byt_71 : byt Tryz.prog 71 = some 8 := by kernel_rfl
@[simp] theorem elt_71 : elt Tryz.prog 71 = none := by kernel_rfl
@[simp] theorem zc_71 : zcells Tryz.prog 71 = some [.nilFunc] := by kernel_rfl
@[simp] theorem tag_72 : tag Tryz.prog 72 = some false := by kernel_rfl
@[simp] theorem tsz_72 : tsz Tryz.prog 72 = some 1 := by kernel_rfl
@[simp] theorem byt_72 : byt Tryz.prog 72 = some 8 := by kernel_rfl
@[simp] theorem elt_72 : elt Tryz.prog 72 = none := by kernel_rfl
@[simp] theorem zc_72 : zcells Tryz.prog 72 = some [.nilFunc] := by kernel_rfl
@[simp] theorem tag_73 : tag Tryz.prog 73 = some false := by kernel_rfl
@[simp] theorem tsz_73 : tsz Tryz.prog 73 = some 1 := by kernel_rfl
@[simp] theorem byt_73 : byt Tryz.prog 73 = some 8 := by kernel_rfl
@[simp] theorem elt_73 : elt Tryz.prog 73 = none := by kernel_rfl
@[simp] theorem zc_73 : zcells Tryz.prog 73 = some [.nilFunc] := by kernel_rfl
@[simp] theorem tag_74 : tag Tryz.prog 74 = some false := by kernel_rfl
@[simp] theorem tsz_74 : tsz Tryz.prog 74 = some 1 := by kernel_rfl
@[simp] theorem byt_74 : byt Tryz.prog 74 = some 8 := by kernel_rfl
@[simp] theorem elt_74 : elt Tryz.prog 74 = none := by kernel_rfl
@[simp] theorem zc_74 : zcells Tryz.prog 74 = some [.nilFunc] := by kernel_rfl
@[simp] theorem tag_75 : tag Tryz.prog 75 = some false := by kernel_rfl
@[simp] theorem tsz_75 : tsz Tryz.prog 75 = some 1 := by kernel_rfl
@[simp] theorem byt_75 : byt Tryz.prog 75 = some 24 := by kernel_rfl
@[simp] theorem elt_75 : elt Tryz.prog 75 = some 121 := by kernel_rfl
@[simp] theorem zc_75 : zcells Tryz.prog 75 = some [.slice none 0 0] := by kernel_rfl
@[simp] theorem tag_76 : tag Tryz.prog 76 = some false := by kernel_rfl
@[simp] theorem tsz_76 : tsz Tryz.prog 76 = some 1 := by kernel_rfl
@[simp] theorem byt_76 : byt Tryz.prog 76 = some 0 := by kernel_rfl
@[simp] theorem elt_76 : elt Tryz.prog 76 = none := by kernel_rfl
@[simp] theorem tag_77 : tag Tryz.prog 77 = some false := by kernel_rfl
@[simp] theorem tsz_77 : tsz Tryz.prog 77 = some 1 := by kernel_rfl
@[simp] theorem byt_77 : byt Tryz.prog 77 = some 8 := by kernel_rfl
@[simp] theorem elt_77 : elt Tryz.prog 77 = none := by kernel_rfl
@[simp] theorem zc_77 : zcells Tryz.prog 77 = some [.nilFunc] := by kernel_rfl
@[simp] theorem tag_78 : tag Tryz.prog 78 = some false := by kernel_rfl
@[simp] theorem tsz_78 : tsz Tryz.prog 78 = some 1 := by kernel_rfl
@[simp] theorem byt_78 : byt Tryz.prog 78 = some 8 := by kernel_rfl
@[simp] theorem elt_78 : elt Tryz.prog 78 = none := by kernel_rfl
@[simp] theorem zc_78 : zcells Tryz.prog 78 = some [.nilFunc] := by kernel_rfl
@[simp] theorem tag_79 : tag Tryz.prog 79 = some false := by kernel_rfl
@[simp] theorem tsz_79 : tsz Tryz.prog 79 = some 1 := by kernel_rfl
@[simp] theorem byt_79 : byt Tryz.prog 79 = some 8 := by kernel_rfl
@[simp] theorem elt_79 : elt Tryz.prog 79 = none := by kernel_rfl
@[simp] theorem zc_79 : zcells Tryz.prog 79 = some [.nilFunc] := by kernel_rfl
@[simp] theorem tag_80 : tag Tryz.prog 80 = some false := by kernel_rfl
@[simp] theorem tsz_80 : tsz Tryz.prog 80 = some 1 := by kernel_rfl
@[simp] theorem byt_80 : byt Tryz.prog 80 = some 8 := by kernel_rfl
@[simp] theorem elt_80 : elt Tryz.prog 80 = none := by kernel_rfl
@[simp] theorem zc_80 : zcells Tryz.prog 80 = some [.nilFunc] := by kernel_rfl
@[simp] theorem tag_81 : tag Tryz.prog 81 = some false := by kernel_rfl
@[simp] theorem tsz_81 : tsz Tryz.prog 81 = some 1 := by kernel_rfl
@[simp] theorem byt_81 : byt Tryz.prog 81 = some 8 := by kernel_rfl
@[simp] theorem elt_81 : elt Tryz.prog 81 = none := by kernel_rfl
@[simp] theorem zc_81 : zcells Tryz.prog 81 = some [.nilFunc] := by kernel_rfl
@[simp] theorem tag_82 : tag Tryz.prog 82 = some false := by kernel_rfl
@[simp] theorem tsz_82 : tsz Tryz.prog 82 = some 1 := by kernel_rfl
@[simp] theorem byt_82 : byt Tryz.prog 82 = some 24 := by kernel_rfl
@[simp] theorem elt_82 : elt Tryz.prog 82 = some 117 := by kernel_rfl
@[simp] theorem zc_82 : zcells Tryz.prog 82 = some [.slice none 0 0] := by kernel_rfl
@[simp] theorem tag_83 : tag Tryz.prog 83 = some false := by kernel_rfl
@[simp] theorem tsz_83 : tsz Tryz.prog 83 = some 1 := by kernel_rfl
@[simp] theorem byt_83 : byt Tryz.prog 83 = some 24 := by kernel_rfl
@[simp] theorem elt_83 : elt Tryz.prog 83 = some 200 := by kernel_rfl
@[simp] theorem zc_83 : zcells Tryz.prog 83 = some [.slice none 0 0] := by kernel_rfl
@[simp] theorem tag_84 : tag Tryz.prog 84 = some true := by kernel_rfl
@[simp] theorem tsz_84 : tsz Tryz.prog 84 = some 4 := by kernel_rfl
@[simp] theorem byt_84 : byt Tryz.prog 84 = some 64 := by kernel_rfl
@[simp] theorem elt_84 : elt Tryz.prog 84 = none := by kernel_rfl
@[simp] theorem foff_84_0 : foff Tryz.prog 84 0 = some (0, 1) := by kernel_rfl
@[simp] theorem fone_84_0 : fone Tryz.prog 84 0 = some 0 := by kernel_rfl
@[simp] theorem foff_84_1 : foff Tryz.prog 84 1 = some (1, 1) := by kernel_rfl
@[simp] theorem fone_84_1 : fone Tryz.prog 84 1 = some 1 := by kernel_rfl
@[simp] theorem foff_84_2 : foff Tryz.prog 84 2 = some (2, 1) := by kernel_rfl
@[simp] theorem fone_84_2 : fone Tryz.prog 84 2 = some 2 := by kernel_rfl
@[simp] theorem foff_84_3 : foff Tryz.prog 84 3 = some (3, 1) := by kernel_rfl
@[simp] theorem fone_84_3 : fone Tryz.prog 84 3 = some 3 := by kernel_rfl
@[simp] theorem places_84 : places Tryz.prog 84 = some [(0, 1), (1, 1), (2, 1), (3, 1)] := by kernel_rfl
@[simp] theorem zc_84 : zcells Tryz.prog 84 = some [.int .i64 (0), .bool false, .slice none 0 0, .slice none 0 0] := by kernel_rfl
@[simp] theorem tag_85 : tag Tryz.prog 85 = some true := by kernel_rfl
@[simp] theorem tsz_85 : tsz Tryz.prog 85 = some 4 := by kernel_rfl
@[simp] theorem byt_85 : byt Tryz.prog 85 = some 64 := by kernel_rfl
@[simp] theorem elt_85 : elt Tryz.prog 85 = none := by kernel_rfl
@[simp] theorem foff_85_0 : foff Tryz.prog 85 0 = some (0, 1) := by kernel_rfl
@[simp] theorem fone_85_0 : fone Tryz.prog 85 0 = some 0 := by kernel_rfl
@[simp] theorem foff_85_1 : foff Tryz.prog 85 1 = some (1, 1) := by kernel_rfl
@[simp] theorem fone_85_1 : fone Tryz.prog 85 1 = some 1 := by kernel_rfl
@[simp] theorem foff_85_2 : foff Tryz.prog 85 2 = some (2, 1) := by kernel_rfl
@[simp] theorem fone_85_2 : fone Tryz.prog 85 2 = some 2 := by kernel_rfl
@[simp] theorem foff_85_3 : foff Tryz.prog 85 3 = some (3, 1) := by kernel_rfl
@[simp] theorem fone_85_3 : fone Tryz.prog 85 3 = some 3 := by kernel_rfl
@[simp] theorem places_85 : places Tryz.prog 85 = some [(0, 1), (1, 1), (2, 1), (3, 1)] := by kernel_rfl
@[simp] theorem zc_85 : zcells Tryz.prog 85 = some [.int .i64 (0), .bool false, .slice none 0 0, .slice none 0 0] := by kernel_rfl
@[simp] theorem tag_86 : tag Tryz.prog 86 = some false := by kernel_rfl
@[simp] theorem tsz_86 : tsz Tryz.prog 86 = some 1 := by kernel_rfl
@[simp] theorem byt_86 : byt Tryz.prog 86 = some 1 := by kernel_rfl
@[simp] theorem elt_86 : elt Tryz.prog 86 = none := by kernel_rfl
@[simp] theorem tint_86 : tint Tryz.prog 86 = some .u8 := by kernel_rfl
@[simp] theorem und_86 : Program.underlying Tryz.prog 86 = some (.int .u8) := by kernel_rfl
@[simp] theorem zc_86 : zcells Tryz.prog 86 = some [.int .u8 (0)] := by kernel_rfl
@[simp] theorem tag_87 : tag Tryz.prog 87 = some true := by kernel_rfl
@[simp] theorem tsz_87 : tsz Tryz.prog 87 = some 2 := by kernel_rfl
@[simp] theorem byt_87 : byt Tryz.prog 87 = some 16 := by kernel_rfl
@[simp] theorem elt_87 : elt Tryz.prog 87 = none := by kernel_rfl
@[simp] theorem foff_87_0 : foff Tryz.prog 87 0 = some (0, 1) := by kernel_rfl
@[simp] theorem fone_87_0 : fone Tryz.prog 87 0 = some 0 := by kernel_rfl
@[simp] theorem foff_87_1 : foff Tryz.prog 87 1 = some (1, 1) := by kernel_rfl
@[simp] theorem fone_87_1 : fone Tryz.prog 87 1 = some 1 := by kernel_rfl
@[simp] theorem places_87 : places Tryz.prog 87 = some [(0, 1), (1, 1)] := by kernel_rfl
@[simp] theorem eqg_87 : Program.eqGuardType Tryz.prog Tryz.prog.depth 87 = false := by kernel_rfl
@[simp] theorem eqT_87 (x0 y0 : Int) (x1 y1 : Int) : eqT Tryz.prog 10 87 (.agg [.im (.sc (.int .u8 x0)), .im (.sc (.int .i64 x1))]) (.agg [.im (.sc (.int .u8 y0)), .im (.sc (.int .i64 y1))]) = some ((x0 == y0) && ((x1 == y1) && true)) := by kernel_rfl
@[simp] theorem zc_87 : zcells Tryz.prog 87 = some [.int .u8 (0), .int .i64 (0)] := by kernel_rfl
@[simp] theorem tag_88 : tag Tryz.prog 88 = some true := by kernel_rfl
@[simp] theorem tsz_88 : tsz Tryz.prog 88 = some 2 := by kernel_rfl
@[simp] theorem byt_88 : byt Tryz.prog 88 = some 16 := by kernel_rfl
@[simp] theorem elt_88 : elt Tryz.prog 88 = none := by kernel_rfl
@[simp] theorem foff_88_0 : foff Tryz.prog 88 0 = some (0, 1) := by kernel_rfl
@[simp] theorem fone_88_0 : fone Tryz.prog 88 0 = some 0 := by kernel_rfl
@[simp] theorem foff_88_1 : foff Tryz.prog 88 1 = some (1, 1) := by kernel_rfl
@[simp] theorem fone_88_1 : fone Tryz.prog 88 1 = some 1 := by kernel_rfl
@[simp] theorem places_88 : places Tryz.prog 88 = some [(0, 1), (1, 1)] := by kernel_rfl
@[simp] theorem eqg_88 : Program.eqGuardType Tryz.prog Tryz.prog.depth 88 = false := by kernel_rfl
@[simp] theorem eqT_88 (x0 y0 : Int) (x1 y1 : Int) : eqT Tryz.prog 10 88 (.agg [.im (.sc (.int .u8 x0)), .im (.sc (.int .i64 x1))]) (.agg [.im (.sc (.int .u8 y0)), .im (.sc (.int .i64 y1))]) = some ((x0 == y0) && ((x1 == y1) && true)) := by kernel_rfl
@[simp] theorem zc_88 : zcells Tryz.prog 88 = some [.int .u8 (0), .int .i64 (0)] := by kernel_rfl
@[simp] theorem tag_89 : tag Tryz.prog 89 = some false := by kernel_rfl
@[simp] theorem tsz_89 : tsz Tryz.prog 89 = some 1 := by kernel_rfl
@[simp] theorem byt_89 : byt Tryz.prog 89 = some 0 := by kernel_rfl
@[simp] theorem elt_89 : elt Tryz.prog 89 = none := by kernel_rfl
@[simp] theorem tag_90 : tag Tryz.prog 90 = some false := by kernel_rfl
@[simp] theorem tsz_90 : tsz Tryz.prog 90 = some 1 := by kernel_rfl
@[simp] theorem byt_90 : byt Tryz.prog 90 = some 8 := by kernel_rfl
@[simp] theorem elt_90 : elt Tryz.prog 90 = none := by kernel_rfl
@[simp] theorem zc_90 : zcells Tryz.prog 90 = some [.nilFunc] := by kernel_rfl
@[simp] theorem tag_91 : tag Tryz.prog 91 = some false := by kernel_rfl
@[simp] theorem tsz_91 : tsz Tryz.prog 91 = some 1 := by kernel_rfl
@[simp] theorem byt_91 : byt Tryz.prog 91 = some 8 := by kernel_rfl
@[simp] theorem elt_91 : elt Tryz.prog 91 = none := by kernel_rfl
@[simp] theorem zc_91 : zcells Tryz.prog 91 = some [.nilFunc] := by kernel_rfl
@[simp] theorem tag_92 : tag Tryz.prog 92 = some false := by kernel_rfl
@[simp] theorem tsz_92 : tsz Tryz.prog 92 = some 1 := by kernel_rfl
@[simp] theorem byt_92 : byt Tryz.prog 92 = some 8 := by kernel_rfl
@[simp] theorem elt_92 : elt Tryz.prog 92 = none := by kernel_rfl
@[simp] theorem zc_92 : zcells Tryz.prog 92 = some [.nilFunc] := by kernel_rfl
@[simp] theorem tag_93 : tag Tryz.prog 93 = some false := by kernel_rfl
@[simp] theorem tsz_93 : tsz Tryz.prog 93 = some 1 := by kernel_rfl
@[simp] theorem byt_93 : byt Tryz.prog 93 = some 8 := by kernel_rfl
@[simp] theorem elt_93 : elt Tryz.prog 93 = none := by kernel_rfl
@[simp] theorem isPtr_93 : isPtr Tryz.prog 93 = true := by kernel_rfl
@[simp] theorem zc_93 : zcells Tryz.prog 93 = some [.pointer none] := by kernel_rfl
@[simp] theorem tag_94 : tag Tryz.prog 94 = some false := by kernel_rfl
@[simp] theorem tsz_94 : tsz Tryz.prog 94 = some 1 := by kernel_rfl
@[simp] theorem byt_94 : byt Tryz.prog 94 = some 0 := by kernel_rfl
@[simp] theorem elt_94 : elt Tryz.prog 94 = none := by kernel_rfl
@[simp] theorem tag_95 : tag Tryz.prog 95 = some false := by kernel_rfl
@[simp] theorem tsz_95 : tsz Tryz.prog 95 = some 1 := by kernel_rfl
@[simp] theorem byt_95 : byt Tryz.prog 95 = some 8 := by kernel_rfl
@[simp] theorem elt_95 : elt Tryz.prog 95 = none := by kernel_rfl
@[simp] theorem zc_95 : zcells Tryz.prog 95 = some [.nilFunc] := by kernel_rfl
@[simp] theorem tag_96 : tag Tryz.prog 96 = some false := by kernel_rfl
@[simp] theorem tsz_96 : tsz Tryz.prog 96 = some 1 := by kernel_rfl
@[simp] theorem byt_96 : byt Tryz.prog 96 = some 8 := by kernel_rfl
@[simp] theorem elt_96 : elt Tryz.prog 96 = none := by kernel_rfl
@[simp] theorem zc_96 : zcells Tryz.prog 96 = some [.nilFunc] := by kernel_rfl
@[simp] theorem tag_97 : tag Tryz.prog 97 = some true := by kernel_rfl
@[simp] theorem tsz_97 : tsz Tryz.prog 97 = some 7 := by kernel_rfl
@[simp] theorem byt_97 : byt Tryz.prog 97 = some 136 := by kernel_rfl
@[simp] theorem elt_97 : elt Tryz.prog 97 = none := by kernel_rfl
@[simp] theorem foff_97_0 : foff Tryz.prog 97 0 = some (0, 4) := by kernel_rfl
@[simp] theorem foff_97_1 : foff Tryz.prog 97 1 = some (4, 2) := by kernel_rfl
@[simp] theorem foff_97_2 : foff Tryz.prog 97 2 = some (6, 1) := by kernel_rfl
@[simp] theorem fone_97_2 : fone Tryz.prog 97 2 = some 6 := by kernel_rfl
@[simp] theorem places_97 : places Tryz.prog 97 = some [(0, 4), (4, 2), (6, 1)] := by kernel_rfl
@[simp] theorem zc_97 : zcells Tryz.prog 97 = some [.slice none 0 0, .slice none 0 0, .int .i64 (0), .slice none 0 0, .slice none 0 0, .slice none 0 0, .int .i64 (0)] := by kernel_rfl
@[simp] theorem tag_98 : tag Tryz.prog 98 = some true := by kernel_rfl
@[simp] theorem tsz_98 : tsz Tryz.prog 98 = some 7 := by kernel_rfl
@[simp] theorem byt_98 : byt Tryz.prog 98 = some 136 := by kernel_rfl
@[simp] theorem elt_98 : elt Tryz.prog 98 = none := by kernel_rfl
@[simp] theorem foff_98_0 : foff Tryz.prog 98 0 = some (0, 4) := by kernel_rfl
@[simp] theorem foff_98_1 : foff Tryz.prog 98 1 = some (4, 2) := by kernel_rfl
@[simp] theorem foff_98_2 : foff Tryz.prog 98 2 = some (6, 1) := by kernel_rfl
@[simp] theorem fone_98_2 : fone Tryz.prog 98 2 = some 6 := by kernel_rfl
@[simp] theorem places_98 : places Tryz.prog 98 = some [(0, 4), (4, 2), (6, 1)] := by kernel_rfl
@[simp] theorem zc_98 : zcells Tryz.prog 98 = some [.slice none 0 0, .slice none 0 0, .int .i64 (0), .slice none 0 0, .slice none 0 0, .slice none 0 0, .int .i64 (0)] := by kernel_rfl
@[simp] theorem tag_99 : tag Tryz.prog 99 = some false := by kernel_rfl
@[simp] theorem tsz_99 : tsz Tryz.prog 99 = some 1 := by kernel_rfl
@[simp] theorem byt_99 : byt Tryz.prog 99 = some 0 := by kernel_rfl
@[simp] theorem elt_99 : elt Tryz.prog 99 = none := by kernel_rfl
@[simp] theorem tag_100 : tag Tryz.prog 100 = some false := by kernel_rfl
@[simp] theorem tsz_100 : tsz Tryz.prog 100 = some 1 := by kernel_rfl
@[simp] theorem byt_100 : byt Tryz.prog 100 = some 8 := by kernel_rfl
@[simp] theorem elt_100 : elt Tryz.prog 100 = none := by kernel_rfl
@[simp] theorem zc_100 : zcells Tryz.prog 100 = some [.nilFunc] := by kernel_rfl
@[simp] theorem tag_101 : tag Tryz.prog 101 = some false := by kernel_rfl
@[simp] theorem tsz_101 : tsz Tryz.prog 101 = some 1 := by kernel_rfl
@[simp] theorem byt_101 : byt Tryz.prog 101 = some 8 := by kernel_rfl
@[simp] theorem elt_101 : elt Tryz.prog 101 = none := by kernel_rfl
@[simp] theorem zc_101 : zcells Tryz.prog 101 = some [.nilFunc] := by kernel_rfl
@[simp] theorem tag_102 : tag Tryz.prog 102 = some false := by kernel_rfl
@[simp] theorem tsz_102 : tsz Tryz.prog 102 = some 1 := by kernel_rfl
@[simp] theorem byt_102 : byt Tryz.prog 102 = some 8 := by kernel_rfl
@[simp] theorem elt_102 : elt Tryz.prog 102 = none := by kernel_rfl
@[simp] theorem zc_102 : zcells Tryz.prog 102 = some [.nilFunc] := by kernel_rfl
@[simp] theorem tag_103 : tag Tryz.prog 103 = some false := by kernel_rfl
@[simp] theorem tsz_103 : tsz Tryz.prog 103 = some 1 := by kernel_rfl
@[simp] theorem byt_103 : byt Tryz.prog 103 = some 8 := by kernel_rfl
@[simp] theorem elt_103 : elt Tryz.prog 103 = none := by kernel_rfl
@[simp] theorem zc_103 : zcells Tryz.prog 103 = some [.nilFunc] := by kernel_rfl
@[simp] theorem tag_104 : tag Tryz.prog 104 = some false := by kernel_rfl
@[simp] theorem tsz_104 : tsz Tryz.prog 104 = some 1 := by kernel_rfl
@[simp] theorem byt_104 : byt Tryz.prog 104 = some 8 := by kernel_rfl
@[simp] theorem elt_104 : elt Tryz.prog 104 = none := by kernel_rfl
@[simp] theorem zc_104 : zcells Tryz.prog 104 = some [.nilFunc] := by kernel_rfl
@[simp] theorem tag_105 : tag Tryz.prog 105 = some false := by kernel_rfl
@[simp] theorem tsz_105 : tsz Tryz.prog 105 = some 1 := by kernel_rfl
@[simp] theorem byt_105 : byt Tryz.prog 105 = some 8 := by kernel_rfl
@[simp] theorem elt_105 : elt Tryz.prog 105 = none := by kernel_rfl
@[simp] theorem zc_105 : zcells Tryz.prog 105 = some [.nilFunc] := by kernel_rfl
@[simp] theorem tag_106 : tag Tryz.prog 106 = some false := by kernel_rfl
@[simp] theorem tsz_106 : tsz Tryz.prog 106 = some 1 := by kernel_rfl
@[simp] theorem byt_106 : byt Tryz.prog 106 = some 8 := by kernel_rfl
@[simp] theorem elt_106 : elt Tryz.prog 106 = none := by kernel_rfl
@[simp] theorem zc_106 : zcells Tryz.prog 106 = some [.nilFunc] := by kernel_rfl
@[simp] theorem tag_107 : tag Tryz.prog 107 = some false := by kernel_rfl
@[simp] theorem tsz_107 : tsz Tryz.prog 107 = some 1 := by kernel_rfl
@[simp] theorem byt_107 : byt Tryz.prog 107 = some 0 := by kernel_rfl
@[simp] theorem elt_107 : elt Tryz.prog 107 = none := by kernel_rfl
@[simp] theorem tag_108 : tag Tryz.prog 108 = some false := by kernel_rfl
@[simp] theorem tsz_108 : tsz Tryz.prog 108 = some 1 := by kernel_rfl
@[simp] theorem byt_108 : byt Tryz.prog 108 = some 8 := by kernel_rfl
@[simp] theorem elt_108 : elt Tryz.prog 108 = none := by kernel_rfl
@[simp] theorem zc_108 : zcells Tryz.prog 108 = some [.nilFunc] := by kernel_rfl
@[simp] theorem tag_109 : tag Tryz.prog 109 = some false := by kernel_rfl
@[simp] theorem tsz_109 : tsz Tryz.prog 109 = some 1 := by kernel_rfl
@[simp] theorem byt_109 : byt Tryz.prog 109 = some 8 := by kernel_rfl
@[simp] theorem elt_109 : elt Tryz.prog 109 = none := by kernel_rfl
@[simp] theorem zc_109 : zcells Tryz.prog 109 = some [.nilFunc] := by kernel_rfl
@[simp] theorem tag_110 : tag Tryz.prog 110 = some false := by kernel_rfl
@[simp] theorem tsz_110 : tsz Tryz.prog 110 = some 1 := by kernel_rfl
@[simp] theorem byt_110 : byt Tryz.prog 110 = some 8 := by kernel_rfl
@[simp] theorem elt_110 : elt Tryz.prog 110 = none := by kernel_rfl
@[simp] theorem zc_110 : zcells Tryz.prog 110 = some [.nilFunc] := by kernel_rfl
@[simp] theorem tag_111 : tag Tryz.prog 111 = some false := by kernel_rfl
@[simp] theorem tsz_111 : tsz Tryz.prog 111 = some 1 := by kernel_rfl
@[simp] theorem byt_111 : byt Tryz.prog 111 = some 8 := by kernel_rfl
@[simp] theorem elt_111 : elt Tryz.prog 111 = none := by kernel_rfl
@[simp] theorem zc_111 : zcells Tryz.prog 111 = some [.nilFunc] := by kernel_rfl
@[simp] theorem tag_112 : tag Tryz.prog 112 = some false := by kernel_rfl
@[simp] theorem tsz_112 : tsz Tryz.prog 112 = some 1 := by kernel_rfl
@[simp] theorem byt_112 : byt Tryz.prog 112 = some 8 := by kernel_rfl
@[simp] theorem elt_112 : elt Tryz.prog 112 = none := by kernel_rfl
@[simp] theorem zc_112 : zcells Tryz.prog 112 = some [.nilFunc] := by kernel_rfl
@[simp] theorem tag_113 : tag Tryz.prog 113 = some false := by kernel_rfl
@[simp] theorem tsz_113 : tsz Tryz.prog 113 = some 1 := by kernel_rfl
@[simp] theorem byt_113 : byt Tryz.prog 113 = some 8 := by kernel_rfl
@[simp] theorem elt_113 : elt Tryz.prog 113 = none := by kernel_rfl
@[simp] theorem zc_113 : zcells Tryz.prog 113 = some [.nilFunc] := by kernel_rfl
@[simp] theorem tag_114 : tag Tryz.prog 114 = some false := by kernel_rfl
@[simp] theorem tsz_114 : tsz Tryz.prog 114 = some 1 := by kernel_rfl
@[simp] theorem byt_114 : byt Tryz.prog 114 = some 8 := by kernel_rfl
@[simp] theorem elt_114 : elt Tryz.prog 114 = none := by kernel_rfl
@[simp] theorem zc_114 : zcells Tryz.prog 114 = some [.nilFunc] := by kernel_rfl
@[simp] theorem tag_115 : tag Tryz.prog 115 = some false := by kernel_rfl
@[simp] theorem tsz_115 : tsz Tryz.prog 115 = some 1 := by kernel_rfl
@[simp] theorem byt_115 : byt Tryz.prog 115 = some 8 := by kernel_rfl
@[simp] theorem elt_115 : elt Tryz.prog 115 = none := by kernel_rfl
@[simp] theorem zc_115 : zcells Tryz.prog 115 = some [.nilFunc] := by kernel_rfl
@[simp] theorem tag_116 : tag Tryz.prog 116 = some true := by kernel_rfl
@[simp] theorem tsz_116 : tsz Tryz.prog 116 = some 6 := by kernel_rfl
@[simp] theorem byt_116 : byt Tryz.prog 116 = some 48 := by kernel_rfl
@[simp] theorem elt_116 : elt Tryz.prog 116 = none := by kernel_rfl
@[simp] theorem foff_116_0 : foff Tryz.prog 116 0 = some (0, 4) := by kernel_rfl
@[simp] theorem foff_116_1 : foff Tryz.prog 116 1 = some (4, 2) := by kernel_rfl
@[simp] theorem places_116 : places Tryz.prog 116 = some [(0, 4), (4, 2)] := by kernel_rfl
@[simp] theorem eqg_116 : Program.eqGuardType Tryz.prog Tryz.prog.depth 116 = false := by kernel_rfl
@[simp] theorem eqT_116 (x0 y0 : Bool) (x1 y1 : Int) (x2 y2 : Int) (x3 y3 : Int) (x4 y4 : Int) (x5 y5 : Int) : eqT Tryz.prog 10 116 (.agg [.im (.sc (.bool x0)), .im (.sc (.int .u64 x1)), .im (.sc (.int .u64 x2)), .im (.sc (.int .i64 x3)), .im (.sc (.int .u8 x4)), .im (.sc (.int .i64 x5))]) (.agg [.im (.sc (.bool y0)), .im (.sc (.int .u64 y1)), .im (.sc (.int .u64 y2)), .im (.sc (.int .i64 y3)), .im (.sc (.int .u8 y4)), .im (.sc (.int .i64 y5))]) = some (((x0 == y0) && (((x1 == y1) && ((x2 == y2) && true)) && ((x3 == y3) && true))) && (((x4 == y4) && ((x5 == y5) && true)) && true)) := by kernel_rfl
@[simp] theorem zc_116 : zcells Tryz.prog 116 = some [.bool false, .int .u64 (0), .int .u64 (0), .int .i64 (0), .int .u8 (0), .int .i64 (0)] := by kernel_rfl
@[simp] theorem tag_117 : tag Tryz.prog 117 = some true := by kernel_rfl
@[simp] theorem tsz_117 : tsz Tryz.prog 117 = some 6 := by kernel_rfl
@[simp] theorem byt_117 : byt Tryz.prog 117 = some 48 := by kernel_rfl
@[simp] theorem elt_117 : elt Tryz.prog 117 = none := by kernel_rfl
@[simp] theorem foff_117_0 : foff Tryz.prog 117 0 = some (0, 4) := by kernel_rfl
@[simp] theorem foff_117_1 : foff Tryz.prog 117 1 = some (4, 2) := by kernel_rfl
@[simp] theorem places_117 : places Tryz.prog 117 = some [(0, 4), (4, 2)] := by kernel_rfl
@[simp] theorem eqg_117 : Program.eqGuardType Tryz.prog Tryz.prog.depth 117 = false := by kernel_rfl
@[simp] theorem eqT_117 (x0 y0 : Bool) (x1 y1 : Int) (x2 y2 : Int) (x3 y3 : Int) (x4 y4 : Int) (x5 y5 : Int) : eqT Tryz.prog 10 117 (.agg [.im (.sc (.bool x0)), .im (.sc (.int .u64 x1)), .im (.sc (.int .u64 x2)), .im (.sc (.int .i64 x3)), .im (.sc (.int .u8 x4)), .im (.sc (.int .i64 x5))]) (.agg [.im (.sc (.bool y0)), .im (.sc (.int .u64 y1)), .im (.sc (.int .u64 y2)), .im (.sc (.int .i64 y3)), .im (.sc (.int .u8 y4)), .im (.sc (.int .i64 y5))]) = some (((x0 == y0) && (((x1 == y1) && ((x2 == y2) && true)) && ((x3 == y3) && true))) && (((x4 == y4) && ((x5 == y5) && true)) && true)) := by kernel_rfl
@[simp] theorem zc_117 : zcells Tryz.prog 117 = some [.bool false, .int .u64 (0), .int .u64 (0), .int .i64 (0), .int .u8 (0), .int .i64 (0)] := by kernel_rfl
@[simp] theorem tag_118 : tag Tryz.prog 118 = some false := by kernel_rfl
@[simp] theorem tsz_118 : tsz Tryz.prog 118 = some 1 := by kernel_rfl
@[simp] theorem byt_118 : byt Tryz.prog 118 = some 8 := by kernel_rfl
@[simp] theorem elt_118 : elt Tryz.prog 118 = none := by kernel_rfl
@[simp] theorem zc_118 : zcells Tryz.prog 118 = some [.nilFunc] := by kernel_rfl
@[simp] theorem tag_119 : tag Tryz.prog 119 = some false := by kernel_rfl
@[simp] theorem tsz_119 : tsz Tryz.prog 119 = some 1 := by kernel_rfl
@[simp] theorem byt_119 : byt Tryz.prog 119 = some 8 := by kernel_rfl
@[simp] theorem elt_119 : elt Tryz.prog 119 = none := by kernel_rfl
@[simp] theorem zc_119 : zcells Tryz.prog 119 = some [.nilFunc] := by kernel_rfl
@[simp] theorem tag_120 : tag Tryz.prog 120 = some true := by kernel_rfl
@[simp] theorem tsz_120 : tsz Tryz.prog 120 = some 4 := by kernel_rfl
@[simp] theorem byt_120 : byt Tryz.prog 120 = some 32 := by kernel_rfl
@[simp] theorem elt_120 : elt Tryz.prog 120 = none := by kernel_rfl
@[simp] theorem foff_120_0 : foff Tryz.prog 120 0 = some (0, 2) := by kernel_rfl
@[simp] theorem foff_120_1 : foff Tryz.prog 120 1 = some (2, 2) := by kernel_rfl
@[simp] theorem places_120 : places Tryz.prog 120 = some [(0, 2), (2, 2)] := by kernel_rfl
@[simp] theorem eqg_120 : Program.eqGuardType Tryz.prog Tryz.prog.depth 120 = false := by kernel_rfl
@[simp] theorem eqT_120 (x0 y0 : Int) (x1 y1 : Int) (x2 y2 : Int) (x3 y3 : Int) : eqT Tryz.prog 10 120 (.agg [.im (.sc (.int .u64 x0)), .im (.sc (.int .u64 x1)), .im (.sc (.int .u64 x2)), .im (.sc (.int .u64 x3))]) (.agg [.im (.sc (.int .u64 y0)), .im (.sc (.int .u64 y1)), .im (.sc (.int .u64 y2)), .im (.sc (.int .u64 y3))]) = some (((x0 == y0) && ((x1 == y1) && true)) && (((x2 == y2) && ((x3 == y3) && true)) && true)) := by kernel_rfl
@[simp] theorem zc_120 : zcells Tryz.prog 120 = some [.int .u64 (0), .int .u64 (0), .int .u64 (0), .int .u64 (0)] := by kernel_rfl
@[simp] theorem tag_121 : tag Tryz.prog 121 = some true := by kernel_rfl
@[simp] theorem tsz_121 : tsz Tryz.prog 121 = some 4 := by kernel_rfl
@[simp] theorem byt_121 : byt Tryz.prog 121 = some 32 := by kernel_rfl
@[simp] theorem elt_121 : elt Tryz.prog 121 = none := by kernel_rfl
@[simp] theorem foff_121_0 : foff Tryz.prog 121 0 = some (0, 2) := by kernel_rfl
@[simp] theorem foff_121_1 : foff Tryz.prog 121 1 = some (2, 2) := by kernel_rfl
@[simp] theorem places_121 : places Tryz.prog 121 = some [(0, 2), (2, 2)] := by kernel_rfl
@[simp] theorem eqg_121 : Program.eqGuardType Tryz.prog Tryz.prog.depth 121 = false := by kernel_rfl
@[simp] theorem eqT_121 (x0 y0 : Int) (x1 y1 : Int) (x2 y2 : Int) (x3 y3 : Int) : eqT Tryz.prog 10 121 (.agg [.im (.sc (.int .u64 x0)), .im (.sc (.int .u64 x1)), .im (.sc (.int .u64 x2)), .im (.sc (.int .u64 x3))]) (.agg [.im (.sc (.int .u64 y0)), .im (.sc (.int .u64 y1)), .im (.sc (.int .u64 y2)), .im (.sc (.int .u64 y3))]) = some (((x0 == y0) && ((x1 == y1) && true)) && (((x2 == y2) && ((x3 == y3) && true)) && true)) := by kernel_rfl
@[simp] theorem zc_121 : zcells Tryz.prog 121 = some [.int .u64 (0), .int .u64 (0), .int .u64 (0), .int .u64 (0)] := by kernel_rfl
@[simp] theorem tag_122 : tag Tryz.prog 122 = some false := by kernel_rfl
@[simp] theorem tsz_122 : tsz Tryz.prog 122 = some 1 := by kernel_rfl
@[simp] theorem byt_122 : byt Tryz.prog 122 = some 8 := by kernel_rfl
@[simp] theorem elt_122 : elt Tryz.prog 122 = none := by kernel_rfl
@[simp] theorem zc_122 : zcells Tryz.prog 122 = some [.nilFunc] := by kernel_rfl
@[simp] theorem tag_123 : tag Tryz.prog 123 = some false := by kernel_rfl
@[simp] theorem tsz_123 : tsz Tryz.prog 123 = some 1 := by kernel_rfl
@[simp] theorem byt_123 : byt Tryz.prog 123 = some 8 := by kernel_rfl
@[simp] theorem elt_123 : elt Tryz.prog 123 = none := by kernel_rfl
@[simp] theorem zc_123 : zcells Tryz.prog 123 = some [.nilFunc] := by kernel_rfl
@[simp] theorem tag_124 : tag Tryz.prog 124 = some false := by kernel_rfl
@[simp] theorem tsz_124 : tsz Tryz.prog 124 = some 1 := by kernel_rfl
@[simp] theorem byt_124 : byt Tryz.prog 124 = some 8 := by kernel_rfl
@[simp] theorem elt_124 : elt Tryz.prog 124 = none := by kernel_rfl
@[simp] theorem zc_124 : zcells Tryz.prog 124 = some [.nilFunc] := by kernel_rfl
@[simp] theorem tag_125 : tag Tryz.prog 125 = some false := by kernel_rfl
@[simp] theorem tsz_125 : tsz Tryz.prog 125 = some 1 := by kernel_rfl
@[simp] theorem byt_125 : byt Tryz.prog 125 = some 8 := by kernel_rfl
@[simp] theorem elt_125 : elt Tryz.prog 125 = none := by kernel_rfl
@[simp] theorem zc_125 : zcells Tryz.prog 125 = some [.nilFunc] := by kernel_rfl
@[simp] theorem tag_126 : tag Tryz.prog 126 = some false := by kernel_rfl
@[simp] theorem tsz_126 : tsz Tryz.prog 126 = some 1 := by kernel_rfl
@[simp] theorem byt_126 : byt Tryz.prog 126 = some 8 := by kernel_rfl
@[simp] theorem elt_126 : elt Tryz.prog 126 = none := by kernel_rfl
@[simp] theorem zc_126 : zcells Tryz.prog 126 = some [.nilFunc] := by kernel_rfl
@[simp] theorem tag_127 : tag Tryz.prog 127 = some false := by kernel_rfl
@[simp] theorem tsz_127 : tsz Tryz.prog 127 = some 1 := by kernel_rfl
@[simp] theorem byt_127 : byt Tryz.prog 127 = some 8 := by kernel_rfl
@[simp] theorem elt_127 : elt Tryz.prog 127 = none := by kernel_rfl
@[simp] theorem zc_127 : zcells Tryz.prog 127 = some [.nilFunc] := by kernel_rfl
@[simp] theorem tag_128 : tag Tryz.prog 128 = some false := by kernel_rfl
@[simp] theorem tsz_128 : tsz Tryz.prog 128 = some 1 := by kernel_rfl
@[simp] theorem byt_128 : byt Tryz.prog 128 = some 0 := by kernel_rfl
@[simp] theorem elt_128 : elt Tryz.prog 128 = none := by kernel_rfl
@[simp] theorem tag_129 : tag Tryz.prog 129 = some false := by kernel_rfl
@[simp] theorem tsz_129 : tsz Tryz.prog 129 = some 1 := by kernel_rfl
@[simp] theorem byt_129 : byt Tryz.prog 129 = some 8 := by kernel_rfl
@[simp] theorem elt_129 : elt Tryz.prog 129 = none := by kernel_rfl
@[simp] theorem zc_129 : zcells Tryz.prog 129 = some [.nilFunc] := by kernel_rfl
@[simp] theorem tag_130 : tag Tryz.prog 130 = some false := by kernel_rfl
@[simp] theorem tsz_130 : tsz Tryz.prog 130 = some 1 := by kernel_rfl
@[simp] theorem byt_130 : byt Tryz.prog 130 = some 8 := by kernel_rfl
@[simp] theorem elt_130 : elt Tryz.prog 130 = none := by kernel_rfl
@[simp] theorem zc_130 : zcells Tryz.prog 130 = some [.nilFunc] := by kernel_rfl
@[simp] theorem tag_131 : tag Tryz.prog 131 = some false := by kernel_rfl
@[simp] theorem tsz_131 : tsz Tryz.prog 131 = some 1 := by kernel_rfl
@[simp] theorem byt_131 : byt Tryz.prog 131 = some 8 := by kernel_rfl
@[simp] theorem elt_131 : elt Tryz.prog 131 = none := by kernel_rfl
@[simp] theorem zc_131 : zcells Tryz.prog 131 = some [.nilFunc] := by kernel_rfl
@[simp] theorem tag_132 : tag Tryz.prog 132 = some false := by kernel_rfl
@[simp] theorem tsz_132 : tsz Tryz.prog 132 = some 1 := by kernel_rfl
@[simp] theorem byt_132 : byt Tryz.prog 132 = some 8 := by kernel_rfl
@[simp] theorem elt_132 : elt Tryz.prog 132 = none := by kernel_rfl
@[simp] theorem zc_132 : zcells Tryz.prog 132 = some [.nilFunc] := by kernel_rfl
@[simp] theorem tag_133 : tag Tryz.prog 133 = some false := by kernel_rfl
@[simp] theorem tsz_133 : tsz Tryz.prog 133 = some 1 := by kernel_rfl
@[simp] theorem byt_133 : byt Tryz.prog 133 = some 0 := by kernel_rfl
@[simp] theorem elt_133 : elt Tryz.prog 133 = none := by kernel_rfl
@[simp] theorem tag_134 : tag Tryz.prog 134 = some false := by kernel_rfl
@[simp] theorem tsz_134 : tsz Tryz.prog 134 = some 1 := by kernel_rfl
@[simp] theorem byt_134 : byt Tryz.prog 134 = some 8 := by kernel_rfl
@[simp] theorem elt_134 : elt Tryz.prog 134 = none := by kernel_rfl
@[simp] theorem zc_134 : zcells Tryz.prog 134 = some [.nilFunc] := by kernel_rfl
@[simp] theorem tag_135 : tag Tryz.prog 135 = some false := by kernel_rfl
@[simp] theorem tsz_135 : tsz Tryz.prog 135 = some 1 := by kernel_rfl
@[simp] theorem byt_135 : byt Tryz.prog 135 = some 8 := by kernel_rfl
@[simp] theorem elt_135 : elt Tryz.prog 135 = none := by kernel_rfl
@[simp] theorem zc_135 : zcells Tryz.prog 135 = some [.nilFunc] := by kernel_rfl
@[simp] theorem tag_136 : tag Tryz.prog 136 = some false := by kernel_rfl
@[simp] theorem tsz_136 : tsz Tryz.prog 136 = some 1 := by kernel_rfl
@[simp] theorem byt_136 : byt Tryz.prog 136 = some 8 := by kernel_rfl
@[simp] theorem elt_136 : elt Tryz.prog 136 = none := by kernel_rfl
@[simp] theorem zc_136 : zcells Tryz.prog 136 = some [.nilFunc] := by kernel_rfl
@[simp] theorem tag_137 : tag Tryz.prog 137 = some false := by kernel_rfl
@[simp] theorem tsz_137 : tsz Tryz.prog 137 = some 1 := by kernel_rfl
@[simp] theorem byt_137 : byt Tryz.prog 137 = some 8 := by kernel_rfl
@[simp] theorem elt_137 : elt Tryz.prog 137 = none := by kernel_rfl
@[simp] theorem zc_137 : zcells Tryz.prog 137 = some [.nilFunc] := by kernel_rfl
@[simp] theorem tag_138 : tag Tryz.prog 138 = some false := by kernel_rfl
@[simp] theorem tsz_138 : tsz Tryz.prog 138 = some 1 := by kernel_rfl
@[simp] theorem byt_138 : byt Tryz.prog 138 = some 8 := by kernel_rfl
@[simp] theorem elt_138 : elt Tryz.prog 138 = none := by kernel_rfl
@[simp] theorem zc_138 : zcells Tryz.prog 138 = some [.nilFunc] := by kernel_rfl
@[simp] theorem tag_139 : tag Tryz.prog 139 = some false := by kernel_rfl
@[simp] theorem tsz_139 : tsz Tryz.prog 139 = some 1 := by kernel_rfl
@[simp] theorem byt_139 : byt Tryz.prog 139 = some 8 := by kernel_rfl
@[simp] theorem elt_139 : elt Tryz.prog 139 = none := by kernel_rfl
@[simp] theorem zc_139 : zcells Tryz.prog 139 = some [.nilFunc] := by kernel_rfl
@[simp] theorem tag_140 : tag Tryz.prog 140 = some false := by kernel_rfl
@[simp] theorem tsz_140 : tsz Tryz.prog 140 = some 1 := by kernel_rfl
@[simp] theorem byt_140 : byt Tryz.prog 140 = some 8 := by kernel_rfl
@[simp] theorem elt_140 : elt Tryz.prog 140 = none := by kernel_rfl
@[simp] theorem zc_140 : zcells Tryz.prog 140 = some [.nilFunc] := by kernel_rfl
@[simp] theorem tag_141 : tag Tryz.prog 141 = some false := by kernel_rfl
@[simp] theorem tsz_141 : tsz Tryz.prog 141 = some 1 := by kernel_rfl
@[simp] theorem byt_141 : byt Tryz.prog 141 = some 0 := by kernel_rfl
@[simp] theorem elt_141 : elt Tryz.prog 141 = none := by kernel_rfl
@[simp] theorem tag_142 : tag Tryz.prog 142 = some false := by kernel_rfl
@[simp] theorem tsz_142 : tsz Tryz.prog 142 = some 1 := by kernel_rfl
@[simp] theorem byt_142 : byt Tryz.prog 142 = some 8 := by kernel_rfl
@[simp] theorem elt_142 : elt Tryz.prog 142 = none := by kernel_rfl
@[simp] theorem zc_142 : zcells Tryz.prog 142 = some [.nilFunc] := by kernel_rfl
@[simp] theorem tag_143 : tag Tryz.prog 143 = some false := by kernel_rfl
@[simp] theorem tsz_143 : tsz Tryz.prog 143 = some 1 := by kernel_rfl
@[simp] theorem byt_143 : byt Tryz.prog 143 = some 8 := by kernel_rfl
@[simp] theorem elt_143 : elt Tryz.prog 143 = none := by kernel_rfl
@[simp] theorem zc_143 : zcells Tryz.prog 143 = some [.nilFunc] := by kernel_rfl
@[simp] theorem tag_144 : tag Tryz.prog 144 = some false := by kernel_rfl
@[simp] theorem tsz_144 : tsz Tryz.prog 144 = some 1 := by kernel_rfl
@[simp] theorem byt_144 : byt Tryz.prog 144 = some 8 := by kernel_rfl
@[simp] theorem elt_144 : elt Tryz.prog 144 = none := by kernel_rfl
@[simp] theorem zc_144 : zcells Tryz.prog 144 = some [.nilFunc] := by kernel_rfl
@[simp] theorem tag_145 : tag Tryz.prog 145 = some false := by kernel_rfl
@[simp] theorem tsz_145 : tsz Tryz.prog 145 = some 1 := by kernel_rfl
@[simp] theorem byt_145 : byt Tryz.prog 145 = some 0 := by kernel_rfl
@[simp] theorem elt_145 : elt Tryz.prog 145 = none := by kernel_rfl
@[simp] theorem tag_146 : tag Tryz.prog 146 = some false := by kernel_rfl
@[simp] theorem tsz_146 : tsz Tryz.prog 146 = some 1 := by kernel_rfl
@[simp] theorem byt_146 : byt Tryz.prog 146 = some 8 := by kernel_rfl
@[simp] theorem elt_146 : elt Tryz.prog 146 = none := by kernel_rfl
@[simp] theorem zc_146 : zcells Tryz.prog 146 = some [.nilFunc] := by kernel_rfl
@[simp] theorem tag_147 : tag Tryz.prog 147 = some false := by kernel_rfl
@[simp] theorem tsz_147 : tsz Tryz.prog 147 = some 1 := by kernel_rfl
@[simp] theorem byt_147 : byt Tryz.prog 147 = some 8 := by kernel_rfl
@[simp] theorem elt_147 : elt Tryz.prog 147 = none := by kernel_rfl
@[simp] theorem zc_147 : zcells Tryz.prog 147 = some [.nilFunc] := by kernel_rfl
@[simp] theorem tag_148 : tag Tryz.prog 148 = some false := by kernel_rfl
@[simp] theorem tsz_148 : tsz Tryz.prog 148 = some 1 := by kernel_rfl
@[simp] theorem byt_148 : byt Tryz.prog 148 = some 24 := by kernel_rfl
@[simp] theorem elt_148 : elt Tryz.prog 148 = some 53 := by kernel_rfl
@[simp] theorem zc_148 : zcells Tryz.prog 148 = some [.slice none 0 0] := by kernel_rfl
@[simp] theorem tag_149 : tag Tryz.prog 149 = some false := by kernel_rfl
@[simp] theorem tsz_149 : tsz Tryz.prog 149 = some 1 := by kernel_rfl
@[simp] theorem byt_149 : byt Tryz.prog 149 = some 8 := by kernel_rfl
@[simp] theorem elt_149 : elt Tryz.prog 149 = none := by kernel_rfl
@[simp] theorem zc_149 : zcells Tryz.prog 149 = some [.nilFunc] := by kernel_rfl
@[simp] theorem tag_150 : tag Tryz.prog 150 = some false := by kernel_rfl
@[simp] theorem tsz_150 : tsz Tryz.prog 150 = some 1 := by kernel_rfl
@[simp] theorem byt_150 : byt Tryz.prog 150 = some 8 := by kernel_rfl
@[simp] theorem elt_150 : elt Tryz.prog 150 = none := by kernel_rfl
@[simp] theorem zc_150 : zcells Tryz.prog 150 = some [.nilFunc] := by kernel_rfl
@[simp] theorem tag_151 : tag Tryz.prog 151 = some false := by kernel_rfl
@[simp] theorem tsz_151 : tsz Tryz.prog 151 = some 1 := by kernel_rfl
@[simp] theorem byt_151 : byt Tryz.prog 151 = some 8 := by kernel_rfl
@[simp] theorem elt_151 : elt Tryz.prog 151 = none := by kernel_rfl
@[simp] theorem zc_151 : zcells Tryz.prog 151 = some [.nilFunc] := by kernel_rfl
@[simp] theorem tag_152 : tag Tryz.prog 152 = some false := by kernel_rfl
@[simp] theorem tsz_152 : tsz Tryz.prog 152 = some 1 := by kernel_rfl
@[simp] theorem byt_152 : byt Tryz.prog 152 = some 8 := by kernel_rfl
@[simp] theorem elt_152 : elt Tryz.prog 152 = none := by kernel_rfl
@[simp] theorem zc_152 : zcells Tryz.prog 152 = some [.nilFunc] := by kernel_rfl
@[simp] theorem tag_153 : tag Tryz.prog 153 = some false := by kernel_rfl
@[simp] theorem tsz_153 : tsz Tryz.prog 153 = some 1 := by kernel_rfl
@[simp] theorem byt_153 : byt Tryz.prog 153 = some 8 := by kernel_rfl
@[simp] theorem elt_153 : elt Tryz.prog 153 = none := by kernel_rfl
@[simp] theorem zc_153 : zcells Tryz.prog 153 = some [.nilFunc] := by kernel_rfl
@[simp] theorem tag_154 : tag Tryz.prog 154 = some false := by kernel_rfl
@[simp] theorem tsz_154 : tsz Tryz.prog 154 = some 1 := by kernel_rfl
@[simp] theorem byt_154 : byt Tryz.prog 154 = some 8 := by kernel_rfl
@[simp] theorem elt_154 : elt Tryz.prog 154 = none := by kernel_rfl
@[simp] theorem zc_154 : zcells Tryz.prog 154 = some [.nilFunc] := by kernel_rfl
@[simp] theorem tag_155 : tag Tryz.prog 155 = some false := by kernel_rfl
@[simp] theorem tsz_155 : tsz Tryz.prog 155 = some 1 := by kernel_rfl
@[simp] theorem byt_155 : byt Tryz.prog 155 = some 8 := by kernel_rfl
@[simp] theorem elt_155 : elt Tryz.prog 155 = none := by kernel_rfl
@[simp] theorem tint_155 : tint Tryz.prog 155 = some .u64 := by kernel_rfl
@[simp] theorem und_155 : Program.underlying Tryz.prog 155 = some (.int .u64) := by kernel_rfl
@[simp] theorem zc_155 : zcells Tryz.prog 155 = some [.int .u64 (0)] := by kernel_rfl
@[simp] theorem tag_156 : tag Tryz.prog 156 = some false := by kernel_rfl
@[simp] theorem tsz_156 : tsz Tryz.prog 156 = some 1 := by kernel_rfl
@[simp] theorem byt_156 : byt Tryz.prog 156 = some 8 := by kernel_rfl
@[simp] theorem elt_156 : elt Tryz.prog 156 = none := by kernel_rfl
@[simp] theorem zc_156 : zcells Tryz.prog 156 = some [.nilFunc] := by kernel_rfl
@[simp] theorem tag_157 : tag Tryz.prog 157 = some false := by kernel_rfl
@[simp] theorem tsz_157 : tsz Tryz.prog 157 = some 1 := by kernel_rfl
@[simp] theorem byt_157 : byt Tryz.prog 157 = some 8 := by kernel_rfl
@[simp] theorem elt_157 : elt Tryz.prog 157 = none := by kernel_rfl
@[simp] theorem zc_157 : zcells Tryz.prog 157 = some [.nilFunc] := by kernel_rfl
@[simp] theorem tag_158 : tag Tryz.prog 158 = some false := by kernel_rfl
@[simp] theorem tsz_158 : tsz Tryz.prog 158 = some 1 := by kernel_rfl
@[simp] theorem byt_158 : byt Tryz.prog 158 = some 8 := by kernel_rfl
@[simp] theorem elt_158 : elt Tryz.prog 158 = none := by kernel_rfl
@[simp] theorem zc_158 : zcells Tryz.prog 158 = some [.nilFunc] := by kernel_rfl
@[simp] theorem tag_159 : tag Tryz.prog 159 = some false := by kernel_rfl
@[simp] theorem tsz_159 : tsz Tryz.prog 159 = some 1 := by kernel_rfl
@[simp] theorem byt_159 : byt Tryz.prog 159 = some 8 := by kernel_rfl
@[simp] theorem elt_159 : elt Tryz.prog 159 = none := by kernel_rfl
@[simp] theorem zc_159 : zcells Tryz.prog 159 = some [.nilFunc] := by kernel_rfl
@[simp] theorem tag_160 : tag Tryz.prog 160 = some false := by kernel_rfl
@[simp] theorem tsz_160 : tsz Tryz.prog 160 = some 1 := by kernel_rfl
@[simp] theorem byt_160 : byt Tryz.prog 160 = some 8 := by kernel_rfl
@[simp] theorem elt_160 : elt Tryz.prog 160 = none := by kernel_rfl
@[simp] theorem zc_160 : zcells Tryz.prog 160 = some [.nilFunc] := by kernel_rfl
@[simp] theorem tag_161 : tag Tryz.prog 161 = some false := by kernel_rfl
@[simp] theorem tsz_161 : tsz Tryz.prog 161 = some 1 := by kernel_rfl
@[simp] theorem byt_161 : byt Tryz.prog 161 = some 8 := by kernel_rfl
@[simp] theorem elt_161 : elt Tryz.prog 161 = none := by kernel_rfl
@[simp] theorem zc_161 : zcells Tryz.prog 161 = some [.nilFunc] := by kernel_rfl
@[simp] theorem tag_162 : tag Tryz.prog 162 = some false := by kernel_rfl
@[simp] theorem tsz_162 : tsz Tryz.prog 162 = some 1 := by kernel_rfl
@[simp] theorem byt_162 : byt Tryz.prog 162 = some 24 := by kernel_rfl
@[simp] theorem elt_162 : elt Tryz.prog 162 = some 3 := by kernel_rfl
@[simp] theorem zc_162 : zcells Tryz.prog 162 = some [.slice none 0 0] := by kernel_rfl
@[simp] theorem tag_163 : tag Tryz.prog 163 = some false := by kernel_rfl
@[simp] theorem tsz_163 : tsz Tryz.prog 163 = some 1 := by kernel_rfl
@[simp] theorem byt_163 : byt Tryz.prog 163 = some 8 := by kernel_rfl
@[simp] theorem elt_163 : elt Tryz.prog 163 = none := by kernel_rfl
@[simp] theorem zc_163 : zcells Tryz.prog 163 = some [.nilFunc] := by kernel_rfl
@[simp] theorem tag_164 : tag Tryz.prog 164 = some false := by kernel_rfl
@[simp] theorem tsz_164 : tsz Tryz.prog 164 = some 1 := by kernel_rfl
@[simp] theorem byt_164 : byt Tryz.prog 164 = some 8 := by kernel_rfl
@[simp] theorem elt_164 : elt Tryz.prog 164 = none := by kernel_rfl
@[simp] theorem zc_164 : zcells Tryz.prog 164 = some [.nilFunc] := by kernel_rfl
@[simp] theorem tag_165 : tag Tryz.prog 165 = some false := by kernel_rfl
@[simp] theorem tsz_165 : tsz Tryz.prog 165 = some 1 := by kernel_rfl
@[simp] theorem byt_165 : byt Tryz.prog 165 = some 8 := by kernel_rfl
@[simp] theorem elt_165 : elt Tryz.prog 165 = none := by kernel_rfl
@[simp] theorem zc_165 : zcells Tryz.prog 165 = some [.nilFunc] := by kernel_rfl
@[simp] theorem tag_166 : tag Tryz.prog 166 = some false := by kernel_rfl
@[simp] theorem tsz_166 : tsz Tryz.prog 166 = some 1 := by kernel_rfl
@[simp] theorem byt_166 : byt Tryz.prog 166 = some 0 := by kernel_rfl
@[simp] theorem elt_166 : elt Tryz.prog 166 = none := by kernel_rfl
@[simp] theorem tag_167 : tag Tryz.prog 167 = some false := by kernel_rfl
@[simp] theorem tsz_167 : tsz Tryz.prog 167 = some 1 := by kernel_rfl
@[simp] theorem byt_167 : byt Tryz.prog 167 = some 8 := by kernel_rfl
@[simp] theorem elt_167 : elt Tryz.prog 167 = none := by kernel_rfl
@[simp] theorem zc_167 : zcells Tryz.prog 167 = some [.nilFunc] := by kernel_rfl
@[simp] theorem tag_168 : tag Tryz.prog 168 = some false := by kernel_rfl
@[simp] theorem tsz_168 : tsz Tryz.prog 168 = some 1 := by kernel_rfl
@[simp] theorem byt_168 : byt Tryz.prog 168 = some 8 := by kernel_rfl
@[simp] theorem elt_168 : elt Tryz.prog 168 = none := by kernel_rfl
@[simp] theorem zc_168 : zcells Tryz.prog 168 = some [.nilFunc] := by kernel_rfl
@[simp] theorem tag_169 : tag Tryz.prog 169 = some false := by kernel_rfl
@[simp] theorem tsz_169 : tsz Tryz.prog 169 = some 1 := by kernel_rfl
@[simp] theorem byt_169 : byt Tryz.prog 169 = some 8 := by kernel_rfl
@[simp] theorem elt_169 : elt Tryz.prog 169 = none := by kernel_rfl
@[simp] theorem zc_169 : zcells Tryz.prog 169 = some [.nilFunc] := by kernel_rfl
@[simp] theorem tag_170 : tag Tryz.prog 170 = some false := by kernel_rfl
@[simp] theorem tsz_170 : tsz Tryz.prog 170 = some 1 := by kernel_rfl
@[simp] theorem byt_170 : byt Tryz.prog 170 = some 8 := by kernel_rfl
@[simp] theorem elt_170 : elt Tryz.prog 170 = none := by kernel_rfl
@[simp] theorem zc_170 : zcells Tryz.prog 170 = some [.nilFunc] := by kernel_rfl
@[simp] theorem tag_171 : tag Tryz.prog 171 = some false := by kernel_rfl
@[simp] theorem tsz_171 : tsz Tryz.prog 171 = some 1 := by kernel_rfl
@[simp] theorem byt_171 : byt Tryz.prog 171 = some 8 := by kernel_rfl
@[simp] theorem elt_171 : elt Tryz.prog 171 = none := by kernel_rfl
@[simp] theorem zc_171 : zcells Tryz.prog 171 = some [.nilFunc] := by kernel_rfl
@[simp] theorem tag_172 : tag Tryz.prog 172 = some false := by kernel_rfl
@[simp] theorem tsz_172 : tsz Tryz.prog 172 = some 1 := by kernel_rfl
@[simp] theorem byt_172 : byt Tryz.prog 172 = some 8 := by kernel_rfl
@[simp] theorem elt_172 : elt Tryz.prog 172 = none := by kernel_rfl
@[simp] theorem zc_172 : zcells Tryz.prog 172 = some [.nilFunc] := by kernel_rfl
@[simp] theorem tag_173 : tag Tryz.prog 173 = some false := by kernel_rfl
@[simp] theorem tsz_173 : tsz Tryz.prog 173 = some 1 := by kernel_rfl
@[simp] theorem byt_173 : byt Tryz.prog 173 = some 8 := by kernel_rfl
@[simp] theorem elt_173 : elt Tryz.prog 173 = none := by kernel_rfl
@[simp] theorem zc_173 : zcells Tryz.prog 173 = some [.nilFunc] := by kernel_rfl
@[simp] theorem tag_174 : tag Tryz.prog 174 = some false := by kernel_rfl
@[simp] theorem tsz_174 : tsz Tryz.prog 174 = some 1 := by kernel_rfl
@[simp] theorem byt_174 : byt Tryz.prog 174 = some 8 := by kernel_rfl
@[simp] theorem elt_174 : elt Tryz.prog 174 = none := by kernel_rfl
@[simp] theorem zc_174 : zcells Tryz.prog 174 = some [.nilFunc] := by kernel_rfl
@[simp] theorem tag_175 : tag Tryz.prog 175 = some false := by kernel_rfl
@[simp] theorem tsz_175 : tsz Tryz.prog 175 = some 1 := by kernel_rfl
@[simp] theorem byt_175 : byt Tryz.prog 175 = some 8 := by kernel_rfl
@[simp] theorem elt_175 : elt Tryz.prog 175 = none := by kernel_rfl
@[simp] theorem isPtr_175 : isPtr Tryz.prog 175 = true := by kernel_rfl
@[simp] theorem zc_175 : zcells Tryz.prog 175 = some [.pointer none] := by kernel_rfl
@[simp] theorem tag_176 : tag Tryz.prog 176 = some true := by kernel_rfl
@[simp] theorem tsz_176 : tsz Tryz.prog 176 = some 2 := by kernel_rfl
@[simp] theorem byt_176 : byt Tryz.prog 176 = some 48 := by kernel_rfl
@[simp] theorem elt_176 : elt Tryz.prog 176 = none := by kernel_rfl
@[simp] theorem foff_176_0 : foff Tryz.prog 176 0 = some (0, 2) := by kernel_rfl
@[simp] theorem places_176 : places Tryz.prog 176 = some [(0, 2)] := by kernel_rfl
@[simp] theorem zc_176 : zcells Tryz.prog 176 = some [.slice none 0 0, .slice none 0 0] := by kernel_rfl
@[simp] theorem tag_177 : tag Tryz.prog 177 = some true := by kernel_rfl
@[simp] theorem tsz_177 : tsz Tryz.prog 177 = some 2 := by kernel_rfl
@[simp] theorem byt_177 : byt Tryz.prog 177 = some 48 := by kernel_rfl
@[simp] theorem elt_177 : elt Tryz.prog 177 = none := by kernel_rfl
@[simp] theorem foff_177_0 : foff Tryz.prog 177 0 = some (0, 2) := by kernel_rfl
@[simp] theorem places_177 : places Tryz.prog 177 = some [(0, 2)] := by kernel_rfl
@[simp] theorem zc_177 : zcells Tryz.prog 177 = some [.slice none 0 0, .slice none 0 0] := by kernel_rfl
@[simp] theorem tag_178 : tag Tryz.prog 178 = some false := by kernel_rfl
@[simp] theorem tsz_178 : tsz Tryz.prog 178 = some 1 := by kernel_rfl
@[simp] theorem byt_178 : byt Tryz.prog 178 = some 8 := by kernel_rfl
@[simp] theorem elt_178 : elt Tryz.prog 178 = none := by kernel_rfl
@[simp] theorem zc_178 : zcells Tryz.prog 178 = some [.nilFunc] := by kernel_rfl
@[simp] theorem tag_179 : tag Tryz.prog 179 = some false := by kernel_rfl
@[simp] theorem tsz_179 : tsz Tryz.prog 179 = some 1 := by kernel_rfl
@[simp] theorem byt_179 : byt Tryz.prog 179 = some 8 := by kernel_rfl
@[simp] theorem elt_179 : elt Tryz.prog 179 = none := by kernel_rfl
@[simp] theorem zc_179 : zcells Tryz.prog 179 = some [.nilFunc] := by kernel_rfl
@[simp] theorem tag_180 : tag Tryz.prog 180 = some false := by kernel_rfl
@[simp] theorem tsz_180 : tsz Tryz.prog 180 = some 1 := by kernel_rfl
@[simp] theorem byt_180 : byt Tryz.prog 180 = some 8 := by kernel_rfl
@[simp] theorem elt_180 : elt Tryz.prog 180 = none := by kernel_rfl
@[simp] theorem zc_180 : zcells Tryz.prog 180 = some [.nilFunc] := by kernel_rfl
@[simp] theorem tag_181 : tag Tryz.prog 181 = some false := by kernel_rfl
@[simp] theorem tsz_181 : tsz Tryz.prog 181 = some 1 := by kernel_rfl
@[simp] theorem byt_181 : byt Tryz.prog 181 = some 8 := by kernel_rfl
@[simp] theorem elt_181 : elt Tryz.prog 181 = none := by kernel_rfl
@[simp] theorem zc_181 : zcells Tryz.prog 181 = some [.nilFunc] := by kernel_rfl
@[simp] theorem tag_182 : tag Tryz.prog 182 = some false := by kernel_rfl
@[simp] theorem tsz_182 : tsz Tryz.prog 182 = some 1 := by kernel_rfl
@[simp] theorem byt_182 : byt Tryz.prog 182 = some 0 := by kernel_rfl
@[simp] theorem elt_182 : elt Tryz.prog 182 = none := by kernel_rfl
@[simp] theorem tag_183 : tag Tryz.prog 183 = some false := by kernel_rfl
@[simp] theorem tsz_183 : tsz Tryz.prog 183 = some 1 := by kernel_rfl
@[simp] theorem byt_183 : byt Tryz.prog 183 = some 8 := by kernel_rfl
@[simp] theorem elt_183 : elt Tryz.prog 183 = none := by kernel_rfl
@[simp] theorem zc_183 : zcells Tryz.prog 183 = some [.nilFunc] := by kernel_rfl
@[simp] theorem tag_184 : tag Tryz.prog 184 = some false := by kernel_rfl
@[simp] theorem tsz_184 : tsz Tryz.prog 184 = some 1 := by kernel_rfl
@[simp] theorem byt_184 : byt Tryz.prog 184 = some 0 := by kernel_rfl
@[simp] theorem elt_184 : elt Tryz.prog 184 = none := by kernel_rfl
@[simp] theorem tag_185 : tag Tryz.prog 185 = some false := by kernel_rfl
@[simp] theorem tsz_185 : tsz Tryz.prog 185 = some 1 := by kernel_rfl
@[simp] theorem byt_185 : byt Tryz.prog 185 = some 8 := by kernel_rfl
@[simp] theorem elt_185 : elt Tryz.prog 185 = none := by kernel_rfl
@[simp] theorem zc_185 : zcells Tryz.prog 185 = some [.nilFunc] := by kernel_rfl
@[simp] theorem tag_186 : tag Tryz.prog 186 = some false := by kernel_rfl
@[simp] theorem tsz_186 : tsz Tryz.prog 186 = some 1 := by kernel_rfl
@[simp] theorem byt_186 : byt Tryz.prog 186 = some 8 := by kernel_rfl
@[simp] theorem elt_186 : elt Tryz.prog 186 = none := by kernel_rfl
@[simp] theorem zc_186 : zcells Tryz.prog 186 = some [.nilFunc] := by kernel_rfl
@[simp] theorem tag_187 : tag Tryz.prog 187 = some false := by kernel_rfl
@[simp] theorem tsz_187 : tsz Tryz.prog 187 = some 1 := by kernel_rfl
@[simp] theorem byt_187 : byt Tryz.prog 187 = some 0 := by kernel_rfl
@[simp] theorem elt_187 : elt Tryz.prog 187 = none := by kernel_rfl
@[simp] theorem tag_188 : tag Tryz.prog 188 = some false := by kernel_rfl
@[simp] theorem tsz_188 : tsz Tryz.prog 188 = some 1 := by kernel_rfl
@[simp] theorem byt_188 : byt Tryz.prog 188 = some 8 := by kernel_rfl
@[simp] theorem elt_188 : elt Tryz.prog 188 = none := by kernel_rfl
@[simp] theorem zc_188 : zcells Tryz.prog 188 = some [.nilFunc] := by kernel_rfl
@[simp] theorem tag_189 : tag Tryz.prog 189 = some false := by kernel_rfl
@[simp] theorem tsz_189 : tsz Tryz.prog 189 = some 1 := by kernel_rfl
@[simp] theorem byt_189 : byt Tryz.prog 189 = some 8 := by kernel_rfl
@[simp] theorem elt_189 : elt Tryz.prog 189 = none := by kernel_rfl
@[simp] theorem zc_189 : zcells Tryz.prog 189 = some [.nilFunc] := by kernel_rfl
@[simp] theorem tag_190 : tag Tryz.prog 190 = some false := by kernel_rfl
@[simp] theorem tsz_190 : tsz Tryz.prog 190 = some 1 := by kernel_rfl
@[simp] theorem byt_190 : byt Tryz.prog 190 = some 8 := by kernel_rfl
@[simp] theorem elt_190 : elt Tryz.prog 190 = none := by kernel_rfl
@[simp] theorem zc_190 : zcells Tryz.prog 190 = some [.nilFunc] := by kernel_rfl
@[simp] theorem tag_191 : tag Tryz.prog 191 = some true := by kernel_rfl
@[simp] theorem tsz_191 : tsz Tryz.prog 191 = some 5 := by kernel_rfl
@[simp] theorem byt_191 : byt Tryz.prog 191 = some 40 := by kernel_rfl
@[simp] theorem elt_191 : elt Tryz.prog 191 = none := by kernel_rfl
@[simp] theorem foff_191_0 : foff Tryz.prog 191 0 = some (0, 1) := by kernel_rfl
@[simp] theorem fone_191_0 : fone Tryz.prog 191 0 = some 0 := by kernel_rfl
@[simp] theorem foff_191_1 : foff Tryz.prog 191 1 = some (1, 1) := by kernel_rfl
@[simp] theorem fone_191_1 : fone Tryz.prog 191 1 = some 1 := by kernel_rfl
@[simp] theorem foff_191_2 : foff Tryz.prog 191 2 = some (2, 1) := by kernel_rfl
@[simp] theorem fone_191_2 : fone Tryz.prog 191 2 = some 2 := by kernel_rfl
@[simp] theorem foff_191_3 : foff Tryz.prog 191 3 = some (3, 1) := by kernel_rfl
@[simp] theorem fone_191_3 : fone Tryz.prog 191 3 = some 3 := by kernel_rfl
@[simp] theorem foff_191_4 : foff Tryz.prog 191 4 = some (4, 1) := by kernel_rfl
@[simp] theorem fone_191_4 : fone Tryz.prog 191 4 = some 4 := by kernel_rfl
@[simp] theorem places_191 : places Tryz.prog 191 = some [(0, 1), (1, 1), (2, 1), (3, 1), (4, 1)] := by kernel_rfl
@[simp] theorem zc_191 : zcells Tryz.prog 191 = some [.int .i64 (0), .int .i64 (0), .nilFunc, .nilFunc, .nilFunc] := by kernel_rfl
@[simp] theorem tag_192 : tag Tryz.prog 192 = some true := by kernel_rfl
@[simp] theorem tsz_192 : tsz Tryz.prog 192 = some 5 := by kernel_rfl
@[simp] theorem byt_192 : byt Tryz.prog 192 = some 40 := by kernel_rfl
@[simp] theorem elt_192 : elt Tryz.prog 192 = none := by kernel_rfl
@[simp] theorem foff_192_0 : foff Tryz.prog 192 0 = some (0, 1) := by kernel_rfl
@[simp] theorem fone_192_0 : fone Tryz.prog 192 0 = some 0 := by kernel_rfl
@[simp] theorem foff_192_1 : foff Tryz.prog 192 1 = some (1, 1) := by kernel_rfl
@[simp] theorem fone_192_1 : fone Tryz.prog 192 1 = some 1 := by kernel_rfl
@[simp] theorem foff_192_2 : foff Tryz.prog 192 2 = some (2, 1) := by kernel_rfl
@[simp] theorem fone_192_2 : fone Tryz.prog 192 2 = some 2 := by kernel_rfl
@[simp] theorem foff_192_3 : foff Tryz.prog 192 3 = some (3, 1) := by kernel_rfl
@[simp] theorem fone_192_3 : fone Tryz.prog 192 3 = some 3 := by kernel_rfl
@[simp] theorem foff_192_4 : foff Tryz.prog 192 4 = some (4, 1) := by kernel_rfl
@[simp] theorem fone_192_4 : fone Tryz.prog 192 4 = some 4 := by kernel_rfl
@[simp] theorem places_192 : places Tryz.prog 192 = some [(0, 1), (1, 1), (2, 1), (3, 1), (4, 1)] := by kernel_rfl
@[simp] theorem zc_192 : zcells Tryz.prog 192 = some [.int .i64 (0), .int .i64 (0), .nilFunc, .nilFunc, .nilFunc] := by kernel_rfl
@[simp] theorem tag_193 : tag Tryz.prog 193 = some false := by kernel_rfl
@[simp] theorem tsz_193 : tsz Tryz.prog 193 = some 1 := by kernel_rfl
@[simp] theorem byt_193 : byt Tryz.prog 193 = some 8 := by kernel_rfl
@[simp] theorem elt_193 : elt Tryz.prog 193 = none := by kernel_rfl
@[simp] theorem zc_193 : zcells Tryz.prog 193 = some [.nilFunc] := by kernel_rfl
@[simp] theorem tag_194 : tag Tryz.prog 194 = some false := by kernel_rfl
@[simp] theorem tsz_194 : tsz Tryz.prog 194 = some 1 := by kernel_rfl
@[simp] theorem byt_194 : byt Tryz.prog 194 = some 8 := by kernel_rfl
@[simp] theorem elt_194 : elt Tryz.prog 194 = none := by kernel_rfl
@[simp] theorem zc_194 : zcells Tryz.prog 194 = some [.nilFunc] := by kernel_rfl
@[simp] theorem tag_195 : tag Tryz.prog 195 = some false := by kernel_rfl
@[simp] theorem tsz_195 : tsz Tryz.prog 195 = some 1 := by kernel_rfl
@[simp] theorem byt_195 : byt Tryz.prog 195 = some 24 := by kernel_rfl
@[simp] theorem elt_195 : elt Tryz.prog 195 = some 229 := by kernel_rfl
@[simp] theorem zc_195 : zcells Tryz.prog 195 = some [.slice none 0 0] := by kernel_rfl
@[simp] theorem tag_196 : tag Tryz.prog 196 = some false := by kernel_rfl
@[simp] theorem tsz_196 : tsz Tryz.prog 196 = some 1 := by kernel_rfl
@[simp] theorem byt_196 : byt Tryz.prog 196 = some 8 := by kernel_rfl
@[simp] theorem elt_196 : elt Tryz.prog 196 = none := by kernel_rfl
@[simp] theorem zc_196 : zcells Tryz.prog 196 = some [.nilFunc] := by kernel_rfl
@[simp] theorem tag_197 : tag Tryz.prog 197 = some false := by kernel_rfl
@[simp] theorem tsz_197 : tsz Tryz.prog 197 = some 1 := by kernel_rfl
@[simp] theorem byt_197 : byt Tryz.prog 197 = some 8 := by kernel_rfl
@[simp] theorem elt_197 : elt Tryz.prog 197 = none := by kernel_rfl
@[simp] theorem zc_197 : zcells Tryz.prog 197 = some [.nilFunc] := by kernel_rfl
@[simp] theorem tag_198 : tag Tryz.prog 198 = some false := by kernel_rfl
@[simp] theorem tsz_198 : tsz Tryz.prog 198 = some 1 := by kernel_rfl
@[simp] theorem byt_198 : byt Tryz.prog 198 = some 8 := by kernel_rfl
@[simp] theorem elt_198 : elt Tryz.prog 198 = none := by kernel_rfl
@[simp] theorem zc_198 : zcells Tryz.prog 198 = some [.nilFunc] := by kernel_rfl
@[simp] theorem tag_199 : tag Tryz.prog 199 = some true := by kernel_rfl
@[simp] theorem tsz_199 : tsz Tryz.prog 199 = some 2 := by kernel_rfl
@[simp] theorem byt_199 : byt Tryz.prog 199 = some 16 := by kernel_rfl
@[simp] theorem elt_199 : elt Tryz.prog 199 = none := by kernel_rfl
@[simp] theorem foff_199_0 : foff Tryz.prog 199 0 = some (0, 1) := by kernel_rfl
@[simp] theorem fone_199_0 : fone Tryz.prog 199 0 = some 0 := by kernel_rfl
@[simp] theorem foff_199_1 : foff Tryz.prog 199 1 = some (1, 1) := by kernel_rfl
@[simp] theorem fone_199_1 : fone Tryz.prog 199 1 = some 1 := by kernel_rfl
@[simp] theorem places_199 : places Tryz.prog 199 = some [(0, 1), (1, 1)] := by kernel_rfl
@[simp] theorem eqg_199 : Program.eqGuardType Tryz.prog Tryz.prog.depth 199 = false := by kernel_rfl
@[simp] theorem eqT_199 (x0 y0 : Int) (x1 y1 : Int) : eqT Tryz.prog 10 199 (.agg [.im (.sc (.int .i64 x0)), .im (.sc (.int .i64 x1))]) (.agg [.im (.sc (.int .i64 y0)), .im (.sc (.int .i64 y1))]) = some ((x0 == y0) && ((x1 == y1) && true)) := by kernel_rfl
@[simp] theorem zc_199 : zcells Tryz.prog 199 = some [.int .i64 (0), .int .i64 (0)] := by kernel_rfl
@[simp] theorem tag_200 : tag Tryz.prog 200 = some true := by kernel_rfl
@[simp] theorem tsz_200 : tsz Tryz.prog 200 = some 2 := by kernel_rfl
@[simp] theorem byt_200 : byt Tryz.prog 200 = some 16 := by kernel_rfl
@[simp] theorem elt_200 : elt Tryz.prog 200 = none := by kernel_rfl
@[simp] theorem foff_200_0 : foff Tryz.prog 200 0 = some (0, 1) := by kernel_rfl
@[simp] theorem fone_200_0 : fone Tryz.prog 200 0 = some 0 := by kernel_rfl
@[simp] theorem foff_200_1 : foff Tryz.prog 200 1 = some (1, 1) := by kernel_rfl
@[simp] theorem fone_200_1 : fone Tryz.prog 200 1 = some 1 := by kernel_rfl
@[simp] theorem places_200 : places Tryz.prog 200 = some [(0, 1), (1, 1)] := by kernel_rfl
@[simp] theorem eqg_200 : Program.eqGuardType Tryz.prog Tryz.prog.depth 200 = false := by kernel_rfl
@[simp] theorem eqT_200 (x0 y0 : Int) (x1 y1 : Int) : eqT Tryz.prog 10 200 (.agg [.im (.sc (.int .i64 x0)), .im (.sc (.int .i64 x1))]) (.agg [.im (.sc (.int .i64 y0)), .im (.sc (.int .i64 y1))]) = some ((x0 == y0) && ((x1 == y1) && true)) := by kernel_rfl
@[simp] theorem zc_200 : zcells Tryz.prog 200 = some [.int .i64 (0), .int .i64 (0)] := by kernel_rfl
@[simp] theorem tag_201 : tag Tryz.prog 201 = some false := by kernel_rfl
@[simp] theorem tsz_201 : tsz Tryz.prog 201 = some 1 := by kernel_rfl
@[simp] theorem byt_201 : byt Tryz.prog 201 = some 8 := by kernel_rfl
@[simp] theorem elt_201 : elt Tryz.prog 201 = none := by kernel_rfl
@[simp] theorem zc_201 : zcells Tryz.prog 201 = some [.nilFunc] := by kernel_rfl
@[simp] theorem tag_202 : tag Tryz.prog 202 = some false := by kernel_rfl
@[simp] theorem tsz_202 : tsz Tryz.prog 202 = some 1 := by kernel_rfl
@[simp] theorem byt_202 : byt Tryz.prog 202 = some 8 := by kernel_rfl
@[simp] theorem elt_202 : elt Tryz.prog 202 = none := by kernel_rfl
@[simp] theorem zc_202 : zcells Tryz.prog 202 = some [.nilFunc] := by kernel_rfl
@[simp] theorem tag_203 : tag Tryz.prog 203 = some false := by kernel_rfl
@[simp] theorem tsz_203 : tsz Tryz.prog 203 = some 1 := by kernel_rfl
@[simp] theorem byt_203 : byt Tryz.prog 203 = some 8 := by kernel_rfl
@[simp] theorem elt_203 : elt Tryz.prog 203 = none := by kernel_rfl
@[simp] theorem zc_203 : zcells Tryz.prog 203 = some [.nilFunc] := by kernel_rfl
@[simp] theorem tag_204 : tag Tryz.prog 204 = some false := by kernel_rfl
@[simp] theorem tsz_204 : tsz Tryz.prog 204 = some 1 := by kernel_rfl
@[simp] theorem byt_204 : byt Tryz.prog 204 = some 0 := by kernel_rfl
@[simp] theorem elt_204 : elt Tryz.prog 204 = none := by kernel_rfl
@[simp] theorem tag_205 : tag Tryz.prog 205 = some false := by kernel_rfl
@[simp] theorem tsz_205 : tsz Tryz.prog 205 = some 1 := by kernel_rfl
@[simp] theorem byt_205 : byt Tryz.prog 205 = some 8 := by kernel_rfl
@[simp] theorem elt_205 : elt Tryz.prog 205 = none := by kernel_rfl
@[simp] theorem zc_205 : zcells Tryz.prog 205 = some [.nilFunc] := by kernel_rfl
@[simp] theorem tag_206 : tag Tryz.prog 206 = some false := by kernel_rfl
@[simp] theorem tsz_206 : tsz Tryz.prog 206 = some 1 := by kernel_rfl
@[simp] theorem byt_206 : byt Tryz.prog 206 = some 8 := by kernel_rfl
@[simp] theorem elt_206 : elt Tryz.prog 206 = none := by kernel_rfl
@[simp] theorem zc_206 : zcells Tryz.prog 206 = some [.nilFunc] := by kernel_rfl
@[simp] theorem tag_207 : tag Tryz.prog 207 = some false := by kernel_rfl
@[simp] theorem tsz_207 : tsz Tryz.prog 207 = some 1 := by kernel_rfl
@[simp] theorem byt_207 : byt Tryz.prog 207 = some 8 := by kernel_rfl
@[simp] theorem elt_207 : elt Tryz.prog 207 = none := by kernel_rfl
@[simp] theorem zc_207 : zcells Tryz.prog 207 = some [.nilFunc] := by kernel_rfl
@[simp] theorem tag_208 : tag Tryz.prog 208 = some false := by kernel_rfl
@[simp] theorem tsz_208 : tsz Tryz.prog 208 = some 1 := by kernel_rfl
@[simp] theorem byt_208 : byt Tryz.prog 208 = some 8 := by kernel_rfl
@[simp] theorem elt_208 : elt Tryz.prog 208 = none := by kernel_rfl
@[simp] theorem zc_208 : zcells Tryz.prog 208 = some [.nilFunc] := by kernel_rfl
@[simp] theorem tag_209 : tag Tryz.prog 209 = some false := by kernel_rfl
@[simp] theorem tsz_209 : tsz Tryz.prog 209 = some 1 := by kernel_rfl
@[simp] theorem byt_209 : byt Tryz.prog 209 = some 8 := by kernel_rfl
@[simp] theorem elt_209 : elt Tryz.prog 209 = none := by kernel_rfl
@[simp] theorem zc_209 : zcells Tryz.prog 209 = some [.nilFunc] := by kernel_rfl
@[simp] theorem tag_210 : tag Tryz.prog 210 = some false := by kernel_rfl
@[simp] theorem tsz_210 : tsz Tryz.prog 210 = some 1 := by kernel_rfl
@[simp] theorem byt_210 : byt Tryz.prog 210 = some 8 := by kernel_rfl
@[simp] theorem elt_210 : elt Tryz.prog 210 = none := by kernel_rfl
@[simp] theorem zc_210 : zcells Tryz.prog 210 = some [.nilFunc] := by kernel_rfl
@[simp] theorem tag_211 : tag Tryz.prog 211 = some false := by kernel_rfl
@[simp] theorem tsz_211 : tsz Tryz.prog 211 = some 1 := by kernel_rfl
@[simp] theorem byt_211 : byt Tryz.prog 211 = some 8 := by kernel_rfl
@[simp] theorem elt_211 : elt Tryz.prog 211 = none := by kernel_rfl
@[simp] theorem zc_211 : zcells Tryz.prog 211 = some [.nilFunc] := by kernel_rfl
@[simp] theorem tag_212 : tag Tryz.prog 212 = some false := by kernel_rfl
@[simp] theorem tsz_212 : tsz Tryz.prog 212 = some 1 := by kernel_rfl
@[simp] theorem byt_212 : byt Tryz.prog 212 = some 8 := by kernel_rfl
@[simp] theorem elt_212 : elt Tryz.prog 212 = none := by kernel_rfl
@[simp] theorem zc_212 : zcells Tryz.prog 212 = some [.nilFunc] := by kernel_rfl
@[simp] theorem tag_213 : tag Tryz.prog 213 = some false := by kernel_rfl
@[simp] theorem tsz_213 : tsz Tryz.prog 213 = some 1 := by kernel_rfl
@[simp] theorem byt_213 : byt Tryz.prog 213 = some 0 := by kernel_rfl
@[simp] theorem elt_213 : elt Tryz.prog 213 = none := by kernel_rfl
@[simp] theorem tag_214 : tag Tryz.prog 214 = some false := by kernel_rfl
@[simp] theorem tsz_214 : tsz Tryz.prog 214 = some 1 := by kernel_rfl
@[simp] theorem byt_214 : byt Tryz.prog 214 = some 8 := by kernel_rfl
@[simp] theorem elt_214 : elt Tryz.prog 214 = none := by kernel_rfl
@[simp] theorem isPtr_214 : isPtr Tryz.prog 214 = true := by kernel_rfl
@[simp] theorem zc_214 : zcells Tryz.prog 214 = some [.pointer none] := by kernel_rfl
@[simp] theorem tag_215 : tag Tryz.prog 215 = some false := by kernel_rfl
@[simp] theorem tsz_215 : tsz Tryz.prog 215 = some 1 := by kernel_rfl
@[simp] theorem byt_215 : byt Tryz.prog 215 = some 8 := by kernel_rfl
@[simp] theorem elt_215 : elt Tryz.prog 215 = none := by kernel_rfl
@[simp] theorem zc_215 : zcells Tryz.prog 215 = some [.nilFunc] := by kernel_rfl
@[simp] theorem tag_216 : tag Tryz.prog 216 = some false := by kernel_rfl
@[simp] theorem tsz_216 : tsz Tryz.prog 216 = some 1 := by kernel_rfl
@[simp] theorem byt_216 : byt Tryz.prog 216 = some 8 := by kernel_rfl
@[simp] theorem elt_216 : elt Tryz.prog 216 = none := by kernel_rfl
@[simp] theorem zc_216 : zcells Tryz.prog 216 = some [.nilFunc] := by kernel_rfl
@[simp] theorem tag_217 : tag Tryz.prog 217 = some false := by kernel_rfl
@[simp] theorem tsz_217 : tsz Tryz.prog 217 = some 1 := by kernel_rfl
@[simp] theorem byt_217 : byt Tryz.prog 217 = some 8 := by kernel_rfl
@[simp] theorem elt_217 : elt Tryz.prog 217 = none := by kernel_rfl
@[simp] theorem zc_217 : zcells Tryz.prog 217 = some [.nilFunc] := by kernel_rfl
@[simp] theorem tag_218 : tag Tryz.prog 218 = some false := by kernel_rfl
@[simp] theorem tsz_218 : tsz Tryz.prog 218 = some 1 := by kernel_rfl
@[simp] theorem byt_218 : byt Tryz.prog 218 = some 8 := by kernel_rfl
@[simp] theorem elt_218 : elt Tryz.prog 218 = none := by kernel_rfl
@[simp] theorem zc_218 : zcells Tryz.prog 218 = some [.nilFunc] := by kernel_rfl
@[simp] theorem tag_219 : tag Tryz.prog 219 = some false := by kernel_rfl
@[simp] theorem tsz_219 : tsz Tryz.prog 219 = some 1 := by kernel_rfl
@[simp] theorem byt_219 : byt Tryz.prog 219 = some 8 := by kernel_rfl
@[simp] theorem elt_219 : elt Tryz.prog 219 = none := by kernel_rfl
@[simp] theorem zc_219 : zcells Tryz.prog 219 = some [.nilFunc] := by kernel_rfl
@[simp] theorem tag_220 : tag Tryz.prog 220 = some false := by kernel_rfl
@[simp] theorem tsz_220 : tsz Tryz.prog 220 = some 1 := by kernel_rfl
@[simp] theorem byt_220 : byt Tryz.prog 220 = some 8 := by kernel_rfl
@[simp] theorem elt_220 : elt Tryz.prog 220 = none := by kernel_rfl
@[simp] theorem zc_220 : zcells Tryz.prog 220 = some [.nilFunc] := by kernel_rfl
@[simp] theorem tag_221 : tag Tryz.prog 221 = some false := by kernel_rfl
@[simp] theorem tsz_221 : tsz Tryz.prog 221 = some 1 := by kernel_rfl
@[simp] theorem byt_221 : byt Tryz.prog 221 = some 0 := by kernel_rfl
@[simp] theorem elt_221 : elt Tryz.prog 221 = none := by kernel_rfl
@[simp] theorem tag_222 : tag Tryz.prog 222 = some false := by kernel_rfl
@[simp] theorem tsz_222 : tsz Tryz.prog 222 = some 1 := by kernel_rfl
@[simp] theorem byt_222 : byt Tryz.prog 222 = some 8 := by kernel_rfl
@[simp] theorem elt_222 : elt Tryz.prog 222 = none := by kernel_rfl
@[simp] theorem zc_222 : zcells Tryz.prog 222 = some [.nilFunc] := by kernel_rfl
@[simp] theorem tag_223 : tag Tryz.prog 223 = some false := by kernel_rfl
@[simp] theorem tsz_223 : tsz Tryz.prog 223 = some 1 := by kernel_rfl
@[simp] theorem byt_223 : byt Tryz.prog 223 = some 0 := by kernel_rfl
@[simp] theorem elt_223 : elt Tryz.prog 223 = none := by kernel_rfl
@[simp] theorem tag_224 : tag Tryz.prog 224 = some false := by kernel_rfl
@[simp] theorem tsz_224 : tsz Tryz.prog 224 = some 1 := by kernel_rfl
@[simp] theorem byt_224 : byt Tryz.prog 224 = some 8 := by kernel_rfl
@[simp] theorem elt_224 : elt Tryz.prog 224 = none := by kernel_rfl
@[simp] theorem zc_224 : zcells Tryz.prog 224 = some [.nilFunc] := by kernel_rfl
@[simp] theorem tag_225 : tag Tryz.prog 225 = some false := by kernel_rfl
@[simp] theorem tsz_225 : tsz Tryz.prog 225 = some 1 := by kernel_rfl
@[simp] theorem byt_225 : byt Tryz.prog 225 = some 8 := by kernel_rfl
@[simp] theorem elt_225 : elt Tryz.prog 225 = none := by kernel_rfl
@[simp] theorem zc_225 : zcells Tryz.prog 225 = some [.nilFunc] := by kernel_rfl
@[simp] theorem tag_226 : tag Tryz.prog 226 = some false := by kernel_rfl
@[simp] theorem tsz_226 : tsz Tryz.prog 226 = some 1 := by kernel_rfl
@[simp] theorem byt_226 : byt Tryz.prog 226 = some 0 := by kernel_rfl
@[simp] theorem elt_226 : elt Tryz.prog 226 = none := by kernel_rfl
@[simp] theorem tag_227 : tag Tryz.prog 227 = some false := by kernel_rfl
@[simp] theorem tsz_227 : tsz Tryz.prog 227 = some 1 := by kernel_rfl
@[simp] theorem byt_227 : byt Tryz.prog 227 = some 8 := by kernel_rfl
@[simp] theorem elt_227 : elt Tryz.prog 227 = none := by kernel_rfl
@[simp] theorem zc_227 : zcells Tryz.prog 227 = some [.nilFunc] := by kernel_rfl
@[simp] theorem tag_228 : tag Tryz.prog 228 = some false := by kernel_rfl
@[simp] theorem tsz_228 : tsz Tryz.prog 228 = some 1 := by kernel_rfl
@[simp] theorem byt_228 : byt Tryz.prog 228 = some 8 := by kernel_rfl
@[simp] theorem elt_228 : elt Tryz.prog 228 = none := by kernel_rfl
@[simp] theorem zc_228 : zcells Tryz.prog 228 = some [.nilFunc] := by kernel_rfl
@[simp] theorem tag_229 : tag Tryz.prog 229 = some true := by kernel_rfl
@[simp] theorem tsz_229 : tsz Tryz.prog 229 = some 2 := by kernel_rfl
@[simp] theorem byt_229 : byt Tryz.prog 229 = some 16 := by kernel_rfl
@[simp] theorem elt_229 : elt Tryz.prog 229 = none := by kernel_rfl
@[simp] theorem foff_229_0 : foff Tryz.prog 229 0 = some (0, 1) := by kernel_rfl
@[simp] theorem fone_229_0 : fone Tryz.prog 229 0 = some 0 := by kernel_rfl
@[simp] theorem foff_229_1 : foff Tryz.prog 229 1 = some (1, 1) := by kernel_rfl
@[simp] theorem fone_229_1 : fone Tryz.prog 229 1 = some 1 := by kernel_rfl
@[simp] theorem places_229 : places Tryz.prog 229 = some [(0, 1), (1, 1)] := by kernel_rfl
@[simp] theorem eqg_229 : Program.eqGuardType Tryz.prog Tryz.prog.depth 229 = false := by kernel_rfl
@[simp] theorem eqT_229 (x0 y0 : Int) (x1 y1 : Int) : eqT Tryz.prog 10 229 (.agg [.im (.sc (.int .i64 x0)), .im (.sc (.int .i64 x1))]) (.agg [.im (.sc (.int .i64 y0)), .im (.sc (.int .i64 y1))]) = some ((x0 == y0) && ((x1 == y1) && true)) := by kernel_rfl
@[simp] theorem zc_229 : zcells Tryz.prog 229 = some [.int .i64 (0), .int .i64 (0)] := by kernel_rfl
@[simp] theorem tag_230 : tag Tryz.prog 230 = some false := by kernel_rfl
@[simp] theorem tsz_230 : tsz Tryz.prog 230 = some 1 := by kernel_rfl
@[simp] theorem byt_230 : byt Tryz.prog 230 = some 8 := by kernel_rfl
@[simp] theorem elt_230 : elt Tryz.prog 230 = none := by kernel_rfl
@[simp] theorem zc_230 : zcells Tryz.prog 230 = some [.nilFunc] := by kernel_rfl
@[simp] theorem tag_231 : tag Tryz.prog 231 = some false := by kernel_rfl
@[simp] theorem tsz_231 : tsz Tryz.prog 231 = some 1 := by kernel_rfl
@[simp] theorem byt_231 : byt Tryz.prog 231 = some 8 := by kernel_rfl
@[simp] theorem elt_231 : elt Tryz.prog 231 = none := by kernel_rfl
@[simp] theorem tint_231 : tint Tryz.prog 231 = some .i64 := by kernel_rfl
@[simp] theorem und_231 : Program.underlying Tryz.prog 231 = some (.int .i64) := by kernel_rfl
@[simp] theorem zc_231 : zcells Tryz.prog 231 = some [.int .i64 (0)] := by kernel_rfl
@[simp] theorem tag_232 : tag Tryz.prog 232 = some false := by kernel_rfl
@[simp] theorem tsz_232 : tsz Tryz.prog 232 = some 1 := by kernel_rfl
@[simp] theorem byt_232 : byt Tryz.prog 232 = some 0 := by kernel_rfl
@[simp] theorem elt_232 : elt Tryz.prog 232 = none := by kernel_rfl
@[simp] theorem tag_233 : tag Tryz.prog 233 = some false := by kernel_rfl
@[simp] theorem tsz_233 : tsz Tryz.prog 233 = some 1 := by kernel_rfl
@[simp] theorem byt_233 : byt Tryz.prog 233 = some 8 := by kernel_rfl
@[simp] theorem elt_233 : elt Tryz.prog 233 = none := by kernel_rfl
@[simp] theorem zc_233 : zcells Tryz.prog 233 = some [.nilFunc] := by kernel_rfl
@[simp] theorem tag_234 : tag Tryz.prog 234 = some false := by kernel_rfl
@[simp] theorem tsz_234 : tsz Tryz.prog 234 = some 1 := by kernel_rfl
@[simp] theorem byt_234 : byt Tryz.prog 234 = some 8 := by kernel_rfl
@[simp] theorem elt_234 : elt Tryz.prog 234 = none := by kernel_rfl
@[simp] theorem zc_234 : zcells Tryz.prog 234 = some [.nilFunc] := by kernel_rfl
@[simp] theorem tag_235 : tag Tryz.prog 235 = some false := by kernel_rfl
@[simp] theorem tsz_235 : tsz Tryz.prog 235 = some 1 := by kernel_rfl
@[simp] theorem byt_235 : byt Tryz.prog 235 = some 8 := by kernel_rfl
@[simp] theorem elt_235 : elt Tryz.prog 235 = none := by kernel_rfl
@[simp] theorem zc_235 : zcells Tryz.prog 235 = some [.nilFunc] := by kernel_rfl
@[simp] theorem tag_236 : tag Tryz.prog 236 = some false := by kernel_rfl
@[simp] theorem tsz_236 : tsz Tryz.prog 236 = some 1 := by kernel_rfl
@[simp] theorem byt_236 : byt Tryz.prog 236 = some 8 := by kernel_rfl
@[simp] theorem elt_236 : elt Tryz.prog 236 = none := by kernel_rfl
@[simp] theorem zc_236 : zcells Tryz.prog 236 = some [.nilFunc] := by kernel_rfl
@[simp] theorem tag_237 : tag Tryz.prog 237 = some false := by kernel_rfl
@[simp] theorem tsz_237 : tsz Tryz.prog 237 = some 1 := by kernel_rfl
@[simp] theorem byt_237 : byt Tryz.prog 237 = some 8 := by kernel_rfl
@[simp] theorem elt_237 : elt Tryz.prog 237 = none := by kernel_rfl
@[simp] theorem zc_237 : zcells Tryz.prog 237 = some [.nilFunc] := by kernel_rfl
@[simp] theorem tag_238 : tag Tryz.prog 238 = some false := by kernel_rfl
@[simp] theorem tsz_238 : tsz Tryz.prog 238 = some 1 := by kernel_rfl
@[simp] theorem byt_238 : byt Tryz.prog 238 = some 8 := by kernel_rfl
@[simp] theorem elt_238 : elt Tryz.prog 238 = none := by kernel_rfl
@[simp] theorem zc_238 : zcells Tryz.prog 238 = some [.nilFunc] := by kernel_rfl
@[simp] theorem tag_239 : tag Tryz.prog 239 = some false := by kernel_rfl
@[simp] theorem tsz_239 : tsz Tryz.prog 239 = some 1 := by kernel_rfl
@[simp] theorem byt_239 : byt Tryz.prog 239 = some 4 := by kernel_rfl
@[simp] theorem elt_239 : elt Tryz.prog 239 = none := by kernel_rfl
@[simp] theorem tint_239 : tint Tryz.prog 239 = some .u32 := by kernel_rfl
@[simp] theorem und_239 : Program.underlying Tryz.prog 239 = some (.int .u32) := by kernel_rfl
@[simp] theorem zc_239 : zcells Tryz.prog 239 = some [.int .u32 (0)] := by kernel_rfl
@[simp] theorem tag_240 : tag Tryz.prog 240 = some false := by kernel_rfl
@[simp] theorem tsz_240 : tsz Tryz.prog 240 = some 1 := by kernel_rfl
@[simp] theorem byt_240 : byt Tryz.prog 240 = some 8 := by kernel_rfl
@[simp] theorem elt_240 : elt Tryz.prog 240 = none := by kernel_rfl
@[simp] theorem zc_240 : zcells Tryz.prog 240 = some [.nilFunc] := by kernel_rfl
@[simp] theorem tag_241 : tag Tryz.prog 241 = some false := by kernel_rfl
@[simp] theorem tsz_241 : tsz Tryz.prog 241 = some 1 := by kernel_rfl
@[simp] theorem byt_241 : byt Tryz.prog 241 = some 8 := by kernel_rfl
@[simp] theorem elt_241 : elt Tryz.prog 241 = none := by kernel_rfl
@[simp] theorem zc_241 : zcells Tryz.prog 241 = some [.nilFunc] := by kernel_rfl
@[simp] theorem tag_242 : tag Tryz.prog 242 = some false := by kernel_rfl
@[simp] theorem tsz_242 : tsz Tryz.prog 242 = some 1 := by kernel_rfl
@[simp] theorem byt_242 : byt Tryz.prog 242 = some 8 := by kernel_rfl
@[simp] theorem elt_242 : elt Tryz.prog 242 = none := by kernel_rfl
@[simp] theorem zc_242 : zcells Tryz.prog 242 = some [.nilFunc] := by kernel_rfl
@[simp] theorem tag_243 : tag Tryz.prog 243 = some false := by kernel_rfl
@[simp] theorem tsz_243 : tsz Tryz.prog 243 = some 1 := by kernel_rfl
@[simp] theorem byt_243 : byt Tryz.prog 243 = some 8 := by kernel_rfl
@[simp] theorem elt_243 : elt Tryz.prog 243 = none := by kernel_rfl
@[simp] theorem zc_243 : zcells Tryz.prog 243 = some [.nilFunc] := by kernel_rfl
@[simp] theorem tag_244 : tag Tryz.prog 244 = some false := by kernel_rfl
@[simp] theorem tsz_244 : tsz Tryz.prog 244 = some 1 := by kernel_rfl
@[simp] theorem byt_244 : byt Tryz.prog 244 = some 8 := by kernel_rfl
@[simp] theorem elt_244 : elt Tryz.prog 244 = none := by kernel_rfl
@[simp] theorem zc_244 : zcells Tryz.prog 244 = some [.nilFunc] := by kernel_rfl
@[simp] theorem tag_245 : tag Tryz.prog 245 = some false := by kernel_rfl
@[simp] theorem tsz_245 : tsz Tryz.prog 245 = some 1 := by kernel_rfl
@[simp] theorem byt_245 : byt Tryz.prog 245 = some 8 := by kernel_rfl
@[simp] theorem elt_245 : elt Tryz.prog 245 = none := by kernel_rfl
@[simp] theorem zc_245 : zcells Tryz.prog 245 = some [.nilFunc] := by kernel_rfl
@[simp] theorem tag_246 : tag Tryz.prog 246 = some false := by kernel_rfl
@[simp] theorem tsz_246 : tsz Tryz.prog 246 = some 1 := by kernel_rfl
@[simp] theorem byt_246 : byt Tryz.prog 246 = some 8 := by kernel_rfl
@[simp] theorem elt_246 : elt Tryz.prog 246 = none := by kernel_rfl
@[simp] theorem zc_246 : zcells Tryz.prog 246 = some [.nilFunc] := by kernel_rfl
@[simp] theorem tag_247 : tag Tryz.prog 247 = some false := by kernel_rfl
@[simp] theorem tsz_247 : tsz Tryz.prog 247 = some 1 := by kernel_rfl
@[simp] theorem byt_247 : byt Tryz.prog 247 = some 8 := by kernel_rfl
@[simp] theorem elt_247 : elt Tryz.prog 247 = none := by kernel_rfl
@[simp] theorem zc_247 : zcells Tryz.prog 247 = some [.nilFunc] := by kernel_rfl
@[simp] theorem tag_248 : tag Tryz.prog 248 = some false := by kernel_rfl
@[simp] theorem tsz_248 : tsz Tryz.prog 248 = some 1 := by kernel_rfl
@[simp] theorem byt_248 : byt Tryz.prog 248 = some 8 := by kernel_rfl
@[simp] theorem elt_248 : elt Tryz.prog 248 = none := by kernel_rfl
@[simp] theorem zc_248 : zcells Tryz.prog 248 = some [.nilFunc] := by kernel_rfl
@[simp] theorem tag_249 : tag Tryz.prog 249 = some false := by kernel_rfl
@[simp] theorem tsz_249 : tsz Tryz.prog 249 = some 1 := by kernel_rfl
@[simp] theorem byt_249 : byt Tryz.prog 249 = some 8 := by kernel_rfl
@[simp] theorem elt_249 : elt Tryz.prog 249 = none := by kernel_rfl
@[simp] theorem isPtr_249 : isPtr Tryz.prog 249 = true := by kernel_rfl
@[simp] theorem zc_249 : zcells Tryz.prog 249 = some [.pointer none] := by kernel_rfl
@[simp] theorem tag_250 : tag Tryz.prog 250 = some false := by kernel_rfl
@[simp] theorem tsz_250 : tsz Tryz.prog 250 = some 1 := by kernel_rfl
@[simp] theorem byt_250 : byt Tryz.prog 250 = some 8 := by kernel_rfl
@[simp] theorem elt_250 : elt Tryz.prog 250 = none := by kernel_rfl
@[simp] theorem isPtr_250 : isPtr Tryz.prog 250 = true := by kernel_rfl
@[simp] theorem zc_250 : zcells Tryz.prog 250 = some [.pointer none] := by kernel_rfl
@[simp] theorem tag_251 : tag Tryz.prog 251 = some true := by kernel_rfl
@[simp] theorem tsz_251 : tsz Tryz.prog 251 = some 2 := by kernel_rfl
@[simp] theorem byt_251 : byt Tryz.prog 251 = some 16 := by kernel_rfl
@[simp] theorem elt_251 : elt Tryz.prog 251 = none := by kernel_rfl
@[simp] theorem arr_251 : arr Tryz.prog 251 = some (2, 1) := by kernel_rfl
@[simp] theorem zc_251 : zcells Tryz.prog 251 = some [.pointer none, .pointer none] := by kernel_rfl
@[simp] theorem tag_252 : tag Tryz.prog 252 = some true := by kernel_rfl
@[simp] theorem tsz_252 : tsz Tryz.prog 252 = some 3 := by kernel_rfl
@[simp] theorem byt_252 : byt Tryz.prog 252 = some 24 := by kernel_rfl
@[simp] theorem elt_252 : elt Tryz.prog 252 = none := by kernel_rfl
@[simp] theorem foff_252_0 : foff Tryz.prog 252 0 = some (0, 1) := by kernel_rfl
@[simp] theorem fone_252_0 : fone Tryz.prog 252 0 = some 0 := by kernel_rfl
@[simp] theorem foff_252_1 : foff Tryz.prog 252 1 = some (1, 2) := by kernel_rfl
@[simp] theorem places_252 : places Tryz.prog 252 = some [(0, 1), (1, 2)] := by kernel_rfl
@[simp] theorem zc_252 : zcells Tryz.prog 252 = some [.pointer none, .pointer none, .pointer none] := by kernel_rfl
@[simp] theorem tag_253 : tag Tryz.prog 253 = some true := by kernel_rfl
@[simp] theorem tsz_253 : tsz Tryz.prog 253 = some 3 := by kernel_rfl
@[simp] theorem byt_253 : byt Tryz.prog 253 = some 24 := by kernel_rfl
@[simp] theorem elt_253 : elt Tryz.prog 253 = none := by kernel_rfl
@[simp] theorem foff_253_0 : foff Tryz.prog 253 0 = some (0, 1) := by kernel_rfl
@[simp] theorem fone_253_0 : fone Tryz.prog 253 0 = some 0 := by kernel_rfl
@[simp] theorem foff_253_1 : foff Tryz.prog 253 1 = some (1, 2) := by kernel_rfl
@[simp] theorem places_253 : places Tryz.prog 253 = some [(0, 1), (1, 2)] := by kernel_rfl
@[simp] theorem zc_253 : zcells Tryz.prog 253 = some [.pointer none, .pointer none, .pointer none] := by kernel_rfl
@[simp] theorem tag_254 : tag Tryz.prog 254 = some true := by kernel_rfl
@[simp] theorem tsz_254 : tsz Tryz.prog 254 = some 4 := by kernel_rfl
@[simp] theorem byt_254 : byt Tryz.prog 254 = some 32 := by kernel_rfl
@[simp] theorem elt_254 : elt Tryz.prog 254 = none := by kernel_rfl
@[simp] theorem foff_254_0 : foff Tryz.prog 254 0 = some (0, 1) := by kernel_rfl
@[simp] theorem fone_254_0 : fone Tryz.prog 254 0 = some 0 := by kernel_rfl
@[simp] theorem foff_254_1 : foff Tryz.prog 254 1 = some (1, 3) := by kernel_rfl
@[simp] theorem places_254 : places Tryz.prog 254 = some [(0, 1), (1, 3)] := by kernel_rfl
@[simp] theorem zc_254 : zcells Tryz.prog 254 = some [.bool false, .pointer none, .pointer none, .pointer none] := by kernel_rfl
@[simp] theorem tag_255 : tag Tryz.prog 255 = some true := by kernel_rfl
@[simp] theorem tsz_255 : tsz Tryz.prog 255 = some 4 := by kernel_rfl
@[simp] theorem byt_255 : byt Tryz.prog 255 = some 32 := by kernel_rfl
@[simp] theorem elt_255 : elt Tryz.prog 255 = none := by kernel_rfl
@[simp] theorem foff_255_0 : foff Tryz.prog 255 0 = some (0, 1) := by kernel_rfl
@[simp] theorem fone_255_0 : fone Tryz.prog 255 0 = some 0 := by kernel_rfl
@[simp] theorem foff_255_1 : foff Tryz.prog 255 1 = some (1, 3) := by kernel_rfl
@[simp] theorem places_255 : places Tryz.prog 255 = some [(0, 1), (1, 3)] := by kernel_rfl
@[simp] theorem zc_255 : zcells Tryz.prog 255 = some [.bool false, .pointer none, .pointer none, .pointer none] := by kernel_rfl
@[simp] theorem tag_256 : tag Tryz.prog 256 = some false := by kernel_rfl
@[simp] theorem tsz_256 : tsz Tryz.prog 256 = some 1 := by kernel_rfl
@[simp] theorem byt_256 : byt Tryz.prog 256 = some 8 := by kernel_rfl
@[simp] theorem elt_256 : elt Tryz.prog 256 = none := by kernel_rfl
@[simp] theorem zc_256 : zcells Tryz.prog 256 = some [.nilFunc] := by kernel_rfl
@[simp] theorem tag_257 : tag Tryz.prog 257 = some false := by kernel_rfl
@[simp] theorem tsz_257 : tsz Tryz.prog 257 = some 1 := by kernel_rfl
@[simp] theorem byt_257 : byt Tryz.prog 257 = some 8 := by kernel_rfl
@[simp] theorem elt_257 : elt Tryz.prog 257 = none := by kernel_rfl
@[simp] theorem zc_257 : zcells Tryz.prog 257 = some [.nilFunc] := by kernel_rfl
@[simp] theorem tag_258 : tag Tryz.prog 258 = some false := by kernel_rfl
@[simp] theorem tsz_258 : tsz Tryz.prog 258 = some 1 := by kernel_rfl
@[simp] theorem byt_258 : byt Tryz.prog 258 = some 8 := by kernel_rfl
@[simp] theorem elt_258 : elt Tryz.prog 258 = none := by kernel_rfl
@[simp] theorem zc_258 : zcells Tryz.prog 258 = some [.nilFunc] := by kernel_rfl
@[simp] theorem tag_259 : tag Tryz.prog 259 = some false := by kernel_rfl
@[simp] theorem tsz_259 : tsz Tryz.prog 259 = some 1 := by kernel_rfl
@[simp] theorem byt_259 : byt Tryz.prog 259 = some 8 := by kernel_rfl
@[simp] theorem elt_259 : elt Tryz.prog 259 = none := by kernel_rfl
@[simp] theorem zc_259 : zcells Tryz.prog 259 = some [.nilFunc] := by kernel_rfl
@[simp] theorem tag_260 : tag Tryz.prog 260 = some false := by kernel_rfl
@[simp] theorem tsz_260 : tsz Tryz.prog 260 = some 1 := by kernel_rfl
@[simp] theorem byt_260 : byt Tryz.prog 260 = some 8 := by kernel_rfl
@[simp] theorem elt_260 : elt Tryz.prog 260 = none := by kernel_rfl
@[simp] theorem zc_260 : zcells Tryz.prog 260 = some [.nilFunc] := by kernel_rfl
@[simp] theorem tag_261 : tag Tryz.prog 261 = some false := by kernel_rfl
@[simp] theorem tsz_261 : tsz Tryz.prog 261 = some 1 := by kernel_rfl
@[simp] theorem byt_261 : byt Tryz.prog 261 = some 8 := by kernel_rfl
@[simp] theorem elt_261 : elt Tryz.prog 261 = none := by kernel_rfl
@[simp] theorem zc_261 : zcells Tryz.prog 261 = some [.nilFunc] := by kernel_rfl
@[simp] theorem tag_262 : tag Tryz.prog 262 = some false := by kernel_rfl
@[simp] theorem tsz_262 : tsz Tryz.prog 262 = some 1 := by kernel_rfl
@[simp] theorem byt_262 : byt Tryz.prog 262 = some 8 := by kernel_rfl
@[simp] theorem elt_262 : elt Tryz.prog 262 = none := by kernel_rfl
@[simp] theorem zc_262 : zcells Tryz.prog 262 = some [.nilFunc] := by kernel_rfl
@[simp] theorem tag_263 : tag Tryz.prog 263 = some false := by kernel_rfl
@[simp] theorem tsz_263 : tsz Tryz.prog 263 = some 1 := by kernel_rfl
@[simp] theorem byt_263 : byt Tryz.prog 263 = some 8 := by kernel_rfl
@[simp] theorem elt_263 : elt Tryz.prog 263 = none := by kernel_rfl
@[simp] theorem isPtr_263 : isPtr Tryz.prog 263 = true := by kernel_rfl
@[simp] theorem zc_263 : zcells Tryz.prog 263 = some [.pointer none] := by kernel_rfl
@[simp] theorem tag_264 : tag Tryz.prog 264 = some true := by kernel_rfl
@[simp] theorem tsz_264 : tsz Tryz.prog 264 = some 4 := by kernel_rfl
@[simp] theorem byt_264 : byt Tryz.prog 264 = some 64 := by kernel_rfl
@[simp] theorem elt_264 : elt Tryz.prog 264 = none := by kernel_rfl
@[simp] theorem foff_264_0 : foff Tryz.prog 264 0 = some (0, 4) := by kernel_rfl
@[simp] theorem places_264 : places Tryz.prog 264 = some [(0, 4)] := by kernel_rfl
@[simp] theorem zc_264 : zcells Tryz.prog 264 = some [.int .i64 (0), .bool false, .slice none 0 0, .slice none 0 0] := by kernel_rfl
@[simp] theorem tag_265 : tag Tryz.prog 265 = some true := by kernel_rfl
@[simp] theorem tsz_265 : tsz Tryz.prog 265 = some 4 := by kernel_rfl
@[simp] theorem byt_265 : byt Tryz.prog 265 = some 64 := by kernel_rfl
@[simp] theorem elt_265 : elt Tryz.prog 265 = none := by kernel_rfl
@[simp] theorem foff_265_0 : foff Tryz.prog 265 0 = some (0, 4) := by kernel_rfl
@[simp] theorem places_265 : places Tryz.prog 265 = some [(0, 4)] := by kernel_rfl
@[simp] theorem zc_265 : zcells Tryz.prog 265 = some [.int .i64 (0), .bool false, .slice none 0 0, .slice none 0 0] := by kernel_rfl
@[simp] theorem tag_266 : tag Tryz.prog 266 = some false := by kernel_rfl
@[simp] theorem tsz_266 : tsz Tryz.prog 266 = some 1 := by kernel_rfl
@[simp] theorem byt_266 : byt Tryz.prog 266 = some 8 := by kernel_rfl
@[simp] theorem elt_266 : elt Tryz.prog 266 = none := by kernel_rfl
@[simp] theorem zc_266 : zcells Tryz.prog 266 = some [.nilFunc] := by kernel_rfl
@[simp] theorem tag_267 : tag Tryz.prog 267 = some false := by kernel_rfl
@[simp] theorem tsz_267 : tsz Tryz.prog 267 = some 1 := by kernel_rfl
@[simp] theorem byt_267 : byt Tryz.prog 267 = some 8 := by kernel_rfl
@[simp] theorem elt_267 : elt Tryz.prog 267 = none := by kernel_rfl
@[simp] theorem zc_267 : zcells Tryz.prog 267 = some [.nilFunc] := by kernel_rfl
@[simp] theorem tag_268 : tag Tryz.prog 268 = some false := by kernel_rfl
@[simp] theorem tsz_268 : tsz Tryz.prog 268 = some 1 := by kernel_rfl
@[simp] theorem byt_268 : byt Tryz.prog 268 = some 8 := by kernel_rfl
@[simp] theorem elt_268 : elt Tryz.prog 268 = none := by kernel_rfl
@[simp] theorem zc_268 : zcells Tryz.prog 268 = some [.nilFunc] := by kernel_rfl
@[simp] theorem tag_269 : tag Tryz.prog 269 = some false := by kernel_rfl
@[simp] theorem tsz_269 : tsz Tryz.prog 269 = some 1 := by kernel_rfl
@[simp] theorem byt_269 : byt Tryz.prog 269 = some 8 := by kernel_rfl
@[simp] theorem elt_269 : elt Tryz.prog 269 = none := by kernel_rfl
@[simp] theorem zc_269 : zcells Tryz.prog 269 = some [.nilFunc] := by kernel_rfl
@[simp] theorem tag_270 : tag Tryz.prog 270 = some false := by kernel_rfl
@[simp] theorem tsz_270 : tsz Tryz.prog 270 = some 1 := by kernel_rfl
@[simp] theorem byt_270 : byt Tryz.prog 270 = some 8 := by kernel_rfl
@[simp] theorem elt_270 : elt Tryz.prog 270 = none := by kernel_rfl
@[simp] theorem zc_270 : zcells Tryz.prog 270 = some [.nilFunc] := by kernel_rfl
@[simp] theorem tag_271 : tag Tryz.prog 271 = some false := by kernel_rfl
@[simp] theorem tsz_271 : tsz Tryz.prog 271 = some 1 := by kernel_rfl
@[simp] theorem byt_271 : byt Tryz.prog 271 = some 8 := by kernel_rfl
@[simp] theorem elt_271 : elt Tryz.prog 271 = none := by kernel_rfl
@[simp] theorem zc_271 : zcells Tryz.prog 271 = some [.nilFunc] := by kernel_rfl
@[simp] theorem tag_272 : tag Tryz.prog 272 = some false := by kernel_rfl
@[simp] theorem tsz_272 : tsz Tryz.prog 272 = some 1 := by kernel_rfl
@[simp] theorem byt_272 : byt Tryz.prog 272 = some 0 := by kernel_rfl
@[simp] theorem elt_272 : elt Tryz.prog 272 = none := by kernel_rfl
@[simp] theorem tag_273 : tag Tryz.prog 273 = some false := by kernel_rfl
@[simp] theorem tsz_273 : tsz Tryz.prog 273 = some 1 := by kernel_rfl
@[simp] theorem byt_273 : byt Tryz.prog 273 = some 8 := by kernel_rfl
@[simp] theorem elt_273 : elt Tryz.prog 273 = none := by kernel_rfl
@[simp] theorem zc_273 : zcells Tryz.prog 273 = some [.nilFunc] := by kernel_rfl
@[simp] theorem tag_274 : tag Tryz.prog 274 = some false := by kernel_rfl
@[simp] theorem tsz_274 : tsz Tryz.prog 274 = some 1 := by kernel_rfl
@[simp] theorem byt_274 : byt Tryz.prog 274 = some 0 := by kernel_rfl
@[simp] theorem elt_274 : elt Tryz.prog 274 = none := by kernel_rfl
@[simp] theorem tag_275 : tag Tryz.prog 275 = some false := by kernel_rfl
@[simp] theorem tsz_275 : tsz Tryz.prog 275 = some 1 := by kernel_rfl
@[simp] theorem byt_275 : byt Tryz.prog 275 = some 8 := by kernel_rfl
@[simp] theorem elt_275 : elt Tryz.prog 275 = none := by kernel_rfl
@[simp] theorem zc_275 : zcells Tryz.prog 275 = some [.nilFunc] := by kernel_rfl
@[simp] theorem tag_276 : tag Tryz.prog 276 = some false := by kernel_rfl
@[simp] theorem tsz_276 : tsz Tryz.prog 276 = some 1 := by kernel_rfl
@[simp] theorem byt_276 : byt Tryz.prog 276 = some 8 := by kernel_rfl
@[simp] theorem elt_276 : elt Tryz.prog 276 = none := by kernel_rfl
@[simp] theorem zc_276 : zcells Tryz.prog 276 = some [.nilFunc] := by kernel_rfl
@[simp] theorem tag_277 : tag Tryz.prog 277 = some false := by kernel_rfl
@[simp] theorem tsz_277 : tsz Tryz.prog 277 = some 1 := by kernel_rfl
@[simp] theorem byt_277 : byt Tryz.prog 277 = some 8 := by kernel_rfl
@[simp] theorem elt_277 : elt Tryz.prog 277 = none := by kernel_rfl
@[simp] theorem tint_277 : tint Tryz.prog 277 = some .u64 := by kernel_rfl
@[simp] theorem und_277 : Program.underlying Tryz.prog 277 = some (.int .u64) := by kernel_rfl
@[simp] theorem zc_277 : zcells Tryz.prog 277 = some [.int .u64 (0)] := by kernel_rfl
@[simp] theorem tag_278 : tag Tryz.prog 278 = some false := by kernel_rfl
@[simp] theorem tsz_278 : tsz Tryz.prog 278 = some 1 := by kernel_rfl
@[simp] theorem byt_278 : byt Tryz.prog 278 = some 8 := by kernel_rfl
@[simp] theorem elt_278 : elt Tryz.prog 278 = none := by kernel_rfl
@[simp] theorem zc_278 : zcells Tryz.prog 278 = some [.nilFunc] := by kernel_rfl
@[simp] theorem tag_279 : tag Tryz.prog 279 = some false := by kernel_rfl
@[simp] theorem tsz_279 : tsz Tryz.prog 279 = some 1 := by kernel_rfl
@[simp] theorem byt_279 : byt Tryz.prog 279 = some 8 := by kernel_rfl
@[simp] theorem elt_279 : elt Tryz.prog 279 = none := by kernel_rfl
@[simp] theorem zc_279 : zcells Tryz.prog 279 = some [.nilFunc] := by kernel_rfl
@[simp] theorem tag_280 : tag Tryz.prog 280 = some false := by kernel_rfl
@[simp] theorem tsz_280 : tsz Tryz.prog 280 = some 1 := by kernel_rfl
@[simp] theorem byt_280 : byt Tryz.prog 280 = some 8 := by kernel_rfl
@[simp] theorem elt_280 : elt Tryz.prog 280 = none := by kernel_rfl
@[simp] theorem zc_280 : zcells Tryz.prog 280 = some [.nilFunc] := by kernel_rfl
@[simp] theorem tag_281 : tag Tryz.prog 281 = some false := by kernel_rfl
@[simp] theorem tsz_281 : tsz Tryz.prog 281 = some 1 := by kernel_rfl
@[simp] theorem byt_281 : byt Tryz.prog 281 = some 8 := by kernel_rfl
@[simp] theorem elt_281 : elt Tryz.prog 281 = none := by kernel_rfl
@[simp] theorem isPtr_281 : isPtr Tryz.prog 281 = true := by kernel_rfl
@[simp] theorem zc_281 : zcells Tryz.prog 281 = some [.pointer none] := by kernel_rfl
@[simp] theorem tag_282 : tag Tryz.prog 282 = some false := by kernel_rfl
@[simp] theorem tsz_282 : tsz Tryz.prog 282 = some 1 := by kernel_rfl
@[simp] theorem byt_282 : byt Tryz.prog 282 = some 8 := by kernel_rfl
@[simp] theorem elt_282 : elt Tryz.prog 282 = none := by kernel_rfl
@[simp] theorem zc_282 : zcells Tryz.prog 282 = some [.nilFunc] := by kernel_rfl
@[simp] theorem tag_283 : tag Tryz.prog 283 = some false := by kernel_rfl
@[simp] theorem tsz_283 : tsz Tryz.prog 283 = some 1 := by kernel_rfl
@[simp] theorem byt_283 : byt Tryz.prog 283 = some 8 := by kernel_rfl
@[simp] theorem elt_283 : elt Tryz.prog 283 = none := by kernel_rfl
@[simp] theorem zc_283 : zcells Tryz.prog 283 = some [.nilFunc] := by kernel_rfl
@[simp] theorem tag_284 : tag Tryz.prog 284 = some false := by kernel_rfl
@[simp] theorem tsz_284 : tsz Tryz.prog 284 = some 1 := by kernel_rfl
@[simp] theorem byt_284 : byt Tryz.prog 284 = some 8 := by kernel_rfl
@[simp] theorem elt_284 : elt Tryz.prog 284 = none := by kernel_rfl
@[simp] theorem zc_284 : zcells Tryz.prog 284 = some [.nilFunc] := by kernel_rfl
@[simp] theorem tag_285 : tag Tryz.prog 285 = some false := by kernel_rfl
@[simp] theorem tsz_285 : tsz Tryz.prog 285 = some 1 := by kernel_rfl
@[simp] theorem byt_285 : byt Tryz.prog 285 = some 0 := by kernel_rfl
@[simp] theorem elt_285 : elt Tryz.prog 285 = none := by kernel_rfl
@[simp] theorem tag_286 : tag Tryz.prog 286 = some false := by kernel_rfl
@[simp] theorem tsz_286 : tsz Tryz.prog 286 = some 1 := by kernel_rfl
@[simp] theorem byt_286 : byt Tryz.prog 286 = some 8 := by kernel_rfl
@[simp] theorem elt_286 : elt Tryz.prog 286 = none := by kernel_rfl
@[simp] theorem zc_286 : zcells Tryz.prog 286 = some [.nilFunc] := by kernel_rfl
@[simp] theorem tag_287 : tag Tryz.prog 287 = some false := by kernel_rfl
@[simp] theorem tsz_287 : tsz Tryz.prog 287 = some 1 := by kernel_rfl
@[simp] theorem byt_287 : byt Tryz.prog 287 = some 8 := by kernel_rfl
@[simp] theorem elt_287 : elt Tryz.prog 287 = none := by kernel_rfl
@[simp] theorem zc_287 : zcells Tryz.prog 287 = some [.nilFunc] := by kernel_rfl
@[simp] theorem tag_288 : tag Tryz.prog 288 = some false := by kernel_rfl
@[simp] theorem tsz_288 : tsz Tryz.prog 288 = some 1 := by kernel_rfl
@[simp] theorem byt_288 : byt Tryz.prog 288 = some 8 := by kernel_rfl
@[simp] theorem elt_288 : elt Tryz.prog 288 = none := by kernel_rfl
@[simp] theorem isPtr_288 : isPtr Tryz.prog 288 = true := by kernel_rfl
@[simp] theorem zc_288 : zcells Tryz.prog 288 = some [.pointer none] := by kernel_rfl
@[simp] theorem tag_289 : tag Tryz.prog 289 = some false := by kernel_rfl
@[simp] theorem tsz_289 : tsz Tryz.prog 289 = some 1 := by kernel_rfl
@[simp] theorem byt_289 : byt Tryz.prog 289 = some 8 := by kernel_rfl
@[simp] theorem elt_289 : elt Tryz.prog 289 = none := by kernel_rfl
@[simp] theorem zc_289 : zcells Tryz.prog 289 = some [.nilFunc] := by kernel_rfl
@[simp] theorem tag_290 : tag Tryz.prog 290 = some false := by kernel_rfl
@[simp] theorem tsz_290 : tsz Tryz.prog 290 = some 1 := by kernel_rfl
@[simp] theorem byt_290 : byt Tryz.prog 290 = some 8 := by kernel_rfl
@[simp] theorem elt_290 : elt Tryz.prog 290 = none := by kernel_rfl
@[simp] theorem zc_290 : zcells Tryz.prog 290 = some [.nilFunc] := by kernel_rfl
@[simp] theorem tag_291 : tag Tryz.prog 291 = some false := by kernel_rfl
@[simp] theorem tsz_291 : tsz Tryz.prog 291 = some 1 := by kernel_rfl
@[simp] theorem byt_291 : byt Tryz.prog 291 = some 8 := by kernel_rfl
@[simp] theorem elt_291 : elt Tryz.prog 291 = none := by kernel_rfl
@[simp] theorem zc_291 : zcells Tryz.prog 291 = some [.nilFunc] := by kernel_rfl
@[simp] theorem tag_292 : tag Tryz.prog 292 = some false := by kernel_rfl
@[simp] theorem tsz_292 : tsz Tryz.prog 292 = some 1 := by kernel_rfl
@[simp] theorem byt_292 : byt Tryz.prog 292 = some 8 := by kernel_rfl
@[simp] theorem elt_292 : elt Tryz.prog 292 = none := by kernel_rfl
@[simp] theorem zc_292 : zcells Tryz.prog 292 = some [.nilFunc] := by kernel_rfl
@[simp] theorem tag_293 : tag Tryz.prog 293 = some false := by kernel_rfl
@[simp] theorem tsz_293 : tsz Tryz.prog 293 = some 1 := by kernel_rfl
@[simp] theorem byt_293 : byt Tryz.prog 293 = some 8 := by kernel_rfl
@[simp] theorem elt_293 : elt Tryz.prog 293 = none := by kernel_rfl
@[simp] theorem zc_293 : zcells Tryz.prog 293 = some [.nilFunc] := by kernel_rfl
@[simp] theorem tag_294 : tag Tryz.prog 294 = some false := by kernel_rfl
@[simp] theorem tsz_294 : tsz Tryz.prog 294 = some 1 := by kernel_rfl
@[simp] theorem byt_294 : byt Tryz.prog 294 = some 8 := by kernel_rfl
@[simp] theorem elt_294 : elt Tryz.prog 294 = none := by kernel_rfl
@[simp] theorem zc_294 : zcells Tryz.prog 294 = some [.nilFunc] := by kernel_rfl
@[simp] theorem tag_295 : tag Tryz.prog 295 = some false := by kernel_rfl
@[simp] theorem tsz_295 : tsz Tryz.prog 295 = some 1 := by kernel_rfl
@[simp] theorem byt_295 : byt Tryz.prog 295 = some 8 := by kernel_rfl
@[simp] theorem elt_295 : elt Tryz.prog 295 = none := by kernel_rfl
@[simp] theorem zc_295 : zcells Tryz.prog 295 = some [.nilFunc] := by kernel_rfl
@[simp] theorem tag_296 : tag Tryz.prog 296 = some false := by kernel_rfl
@[simp] theorem tsz_296 : tsz Tryz.prog 296 = some 1 := by kernel_rfl
@[simp] theorem byt_296 : byt Tryz.prog 296 = some 8 := by kernel_rfl
@[simp] theorem elt_296 : elt Tryz.prog 296 = none := by kernel_rfl
@[simp] theorem zc_296 : zcells Tryz.prog 296 = some [.nilFunc] := by kernel_rfl
@[simp] theorem tag_297 : tag Tryz.prog 297 = some false := by kernel_rfl
@[simp] theorem tsz_297 : tsz Tryz.prog 297 = some 1 := by kernel_rfl
@[simp] theorem byt_297 : byt Tryz.prog 297 = some 8 := by kernel_rfl
@[simp] theorem elt_297 : elt Tryz.prog 297 = none := by kernel_rfl
@[simp] theorem isPtr_297 : isPtr Tryz.prog 297 = true := by kernel_rfl
@[simp] theorem zc_297 : zcells Tryz.prog 297 = some [.pointer none] := by kernel_rfl
@[simp] theorem tag_298 : tag Tryz.prog 298 = some false := by kernel_rfl
@[simp] theorem tsz_298 : tsz Tryz.prog 298 = some 1 := by kernel_rfl
@[simp] theorem byt_298 : byt Tryz.prog 298 = some 0 := by kernel_rfl
@[simp] theorem elt_298 : elt Tryz.prog 298 = none := by kernel_rfl
@[simp] theorem tag_299 : tag Tryz.prog 299 = some false := by kernel_rfl
@[simp] theorem tsz_299 : tsz Tryz.prog 299 = some 1 := by kernel_rfl
@[simp] theorem byt_299 : byt Tryz.prog 299 = some 8 := by kernel_rfl
@[simp] theorem elt_299 : elt Tryz.prog 299 = none := by kernel_rfl
@[simp] theorem zc_299 : zcells Tryz.prog 299 = some [.nilFunc] := by kernel_rfl
@[simp] theorem tag_300 : tag Tryz.prog 300 = some false := by kernel_rfl
@[simp] theorem tsz_300 : tsz Tryz.prog 300 = some 1 := by kernel_rfl
@[simp] theorem byt_300 : byt Tryz.prog 300 = some 8 := by kernel_rfl
@[simp] theorem elt_300 : elt Tryz.prog 300 = none := by kernel_rfl
@[simp] theorem zc_300 : zcells Tryz.prog 300 = some [.nilFunc] := by kernel_rfl
@[simp] theorem tag_301 : tag Tryz.prog 301 = some false := by kernel_rfl
@[simp] theorem tsz_301 : tsz Tryz.prog 301 = some 1 := by kernel_rfl
@[simp] theorem byt_301 : byt Tryz.prog 301 = some 24 := by kernel_rfl
@[simp] theorem elt_301 : elt Tryz.prog 301 = some 5 := by kernel_rfl
@[simp] theorem und_301 : Program.underlying Tryz.prog 301 = some (.slice 5) := by kernel_rfl
@[simp] theorem zc_301 : zcells Tryz.prog 301 = some [.slice none 0 0] := by kernel_rfl
@[simp] theorem tag_302 : tag Tryz.prog 302 = some false := by kernel_rfl
@[simp] theorem tsz_302 : tsz Tryz.prog 302 = some 1 := by kernel_rfl
@[simp] theorem byt_302 : byt Tryz.prog 302 = some 8 := by kernel_rfl
@[simp] theorem elt_302 : elt Tryz.prog 302 = none := by kernel_rfl
@[simp] theorem zc_302 : zcells Tryz.prog 302 = some [.nilFunc] := by kernel_rfl
@[simp] theorem tag_303 : tag Tryz.prog 303 = some false := by kernel_rfl
@[simp] theorem tsz_303 : tsz Tryz.prog 303 = some 1 := by kernel_rfl
@[simp] theorem byt_303 : byt Tryz.prog 303 = some 8 := by kernel_rfl
@[simp] theorem elt_303 : elt Tryz.prog 303 = none := by kernel_rfl
@[simp] theorem zc_303 : zcells Tryz.prog 303 = some [.nilFunc] := by kernel_rfl
@[simp] theorem tag_304 : tag Tryz.prog 304 = some false := by kernel_rfl
@[simp] theorem tsz_304 : tsz Tryz.prog 304 = some 1 := by kernel_rfl
@[simp] theorem byt_304 : byt Tryz.prog 304 = some 8 := by kernel_rfl
@[simp] theorem elt_304 : elt Tryz.prog 304 = none := by kernel_rfl
@[simp] theorem zc_304 : zcells Tryz.prog 304 = some [.nilFunc] := by kernel_rfl
@[simp] theorem tag_305 : tag Tryz.prog 305 = some false := by kernel_rfl
@[simp] theorem tsz_305 : tsz Tryz.prog 305 = some 1 := by kernel_rfl
@[simp] theorem byt_305 : byt Tryz.prog 305 = some 8 := by kernel_rfl
@[simp] theorem elt_305 : elt Tryz.prog 305 = none := by kernel_rfl
@[simp] theorem zc_305 : zcells Tryz.prog 305 = some [.nilFunc] := by kernel_rfl
@[simp] theorem tag_306 : tag Tryz.prog 306 = some false := by kernel_rfl
@[simp] theorem tsz_306 : tsz Tryz.prog 306 = some 1 := by kernel_rfl
@[simp] theorem byt_306 : byt Tryz.prog 306 = some 8 := by kernel_rfl
@[simp] theorem elt_306 : elt Tryz.prog 306 = none := by kernel_rfl
@[simp] theorem zc_306 : zcells Tryz.prog 306 = some [.nilFunc] := by kernel_rfl
@[simp] theorem tag_307 : tag Tryz.prog 307 = some false := by kernel_rfl
@[simp] theorem tsz_307 : tsz Tryz.prog 307 = some 1 := by kernel_rfl
@[simp] theorem byt_307 : byt Tryz.prog 307 = some 8 := by kernel_rfl
@[simp] theorem elt_307 : elt Tryz.prog 307 = none := by kernel_rfl
@[simp] theorem zc_307 : zcells Tryz.prog 307 = some [.nilFunc] := by kernel_rfl
@[simp] theorem tag_308 : tag Tryz.prog 308 = some false := by kernel_rfl
@[simp] theorem tsz_308 : tsz Tryz.prog 308 = some 1 := by kernel_rfl
@[simp] theorem byt_308 : byt Tryz.prog 308 = some 8 := by kernel_rfl
@[simp] theorem elt_308 : elt Tryz.prog 308 = none := by kernel_rfl
@[simp] theorem zc_308 : zcells Tryz.prog 308 = some [.nilFunc] := by kernel_rfl
@[simp] theorem tag_309 : tag Tryz.prog 309 = some false := by kernel_rfl
@[simp] theorem tsz_309 : tsz Tryz.prog 309 = some 1 := by kernel_rfl
@[simp] theorem byt_309 : byt Tryz.prog 309 = some 8 := by kernel_rfl
@[simp] theorem elt_309 : elt Tryz.prog 309 = none := by kernel_rfl
@[simp] theorem zc_309 : zcells Tryz.prog 309 = some [.nilFunc] := by kernel_rfl
@[simp] theorem tag_310 : tag Tryz.prog 310 = some false := by kernel_rfl
@[simp] theorem tsz_310 : tsz Tryz.prog 310 = some 1 := by kernel_rfl
@[simp] theorem byt_310 : byt Tryz.prog 310 = some 8 := by kernel_rfl
@[simp] theorem elt_310 : elt Tryz.prog 310 = none := by kernel_rfl
@[simp] theorem zc_310 : zcells Tryz.prog 310 = some [.nilFunc] := by kernel_rfl
@[simp] theorem tag_311 : tag Tryz.prog 311 = some false := by kernel_rfl
@[simp] theorem tsz_311 : tsz Tryz.prog 311 = some 1 := by kernel_rfl
@[simp] theorem byt_311 : byt Tryz.prog 311 = some 8 := by kernel_rfl
@[simp] theorem elt_311 : elt Tryz.prog 311 = none := by kernel_rfl
@[simp] theorem zc_311 : zcells Tryz.prog 311 = some [.nilFunc] := by kernel_rfl
@[simp] theorem tag_312 : tag Tryz.prog 312 = some false := by kernel_rfl
@[simp] theorem tsz_312 : tsz Tryz.prog 312 = some 1 := by kernel_rfl
@[simp] theorem byt_312 : byt Tryz.prog 312 = some 8 := by kernel_rfl
@[simp] theorem elt_312 : elt Tryz.prog 312 = none := by kernel_rfl
@[simp] theorem zc_312 : zcells Tryz.prog 312 = some [.nilFunc] := by kernel_rfl
@[simp] theorem tag_313 : tag Tryz.prog 313 = some false := by kernel_rfl
@[simp] theorem tsz_313 : tsz Tryz.prog 313 = some 1 := by kernel_rfl
@[simp] theorem byt_313 : byt Tryz.prog 313 = some 8 := by kernel_rfl
@[simp] theorem elt_313 : elt Tryz.prog 313 = none := by kernel_rfl
@[simp] theorem zc_313 : zcells Tryz.prog 313 = some [.nilFunc] := by kernel_rfl
@[simp] theorem tag_314 : tag Tryz.prog 314 = some false := by kernel_rfl
@[simp] theorem tsz_314 : tsz Tryz.prog 314 = some 1 := by kernel_rfl
@[simp] theorem byt_314 : byt Tryz.prog 314 = some 8 := by kernel_rfl
@[simp] theorem elt_314 : elt Tryz.prog 314 = none := by kernel_rfl
@[simp] theorem zc_314 : zcells Tryz.prog 314 = some [.nilFunc] := by kernel_rfl
@[simp] theorem tag_315 : tag Tryz.prog 315 = some false := by kernel_rfl
@[simp] theorem tsz_315 : tsz Tryz.prog 315 = some 1 := by kernel_rfl
@[simp] theorem byt_315 : byt Tryz.prog 315 = some 8 := by kernel_rfl
@[simp] theorem elt_315 : elt Tryz.prog 315 = none := by kernel_rfl
@[simp] theorem zc_315 : zcells Tryz.prog 315 = some [.nilFunc] := by kernel_rfl
@[simp] theorem tag_316 : tag Tryz.prog 316 = some false := by kernel_rfl
@[simp] theorem tsz_316 : tsz Tryz.prog 316 = some 1 := by kernel_rfl
@[simp] theorem byt_316 : byt Tryz.prog 316 = some 8 := by kernel_rfl
@[simp] theorem elt_316 : elt Tryz.prog 316 = none := by kernel_rfl
@[simp] theorem zc_316 : zcells Tryz.prog 316 = some [.nilFunc] := by kernel_rfl
@[simp] theorem tag_317 : tag Tryz.prog 317 = some false := by kernel_rfl
@[simp] theorem tsz_317 : tsz Tryz.prog 317 = some 1 := by kernel_rfl
@[simp] theorem byt_317 : byt Tryz.prog 317 = some 8 := by kernel_rfl
@[simp] theorem elt_317 : elt Tryz.prog 317 = none := by kernel_rfl
@[simp] theorem zc_317 : zcells Tryz.prog 317 = some [.nilFunc] := by kernel_rfl
@[simp] theorem tag_318 : tag Tryz.prog 318 = some false := by kernel_rfl
@[simp] theorem tsz_318 : tsz Tryz.prog 318 = some 1 := by kernel_rfl
@[simp] theorem byt_318 : byt Tryz.prog 318 = some 8 := by kernel_rfl
@[simp] theorem elt_318 : elt Tryz.prog 318 = none := by kernel_rfl
@[simp] theorem zc_318 : zcells Tryz.prog 318 = some [.nilFunc] := by kernel_rfl
@[simp] theorem tag_319 : tag Tryz.prog 319 = some true := by kernel_rfl
@[simp] theorem tsz_319 : tsz Tryz.prog 319 = some 4 := by kernel_rfl
@[simp] theorem byt_319 : byt Tryz.prog 319 = some 40 := by kernel_rfl
@[simp] theorem elt_319 : elt Tryz.prog 319 = none := by kernel_rfl
@[simp] theorem foff_319_0 : foff Tryz.prog 319 0 = some (0, 1) := by kernel_rfl
@[simp] theorem fone_319_0 : fone Tryz.prog 319 0 = some 0 := by kernel_rfl
@[simp] theorem foff_319_1 : foff Tryz.prog 319 1 = some (1, 1) := by kernel_rfl
@[simp] theorem fone_319_1 : fone Tryz.prog 319 1 = some 1 := by kernel_rfl
@[simp] theorem foff_319_2 : foff Tryz.prog 319 2 = some (2, 1) := by kernel_rfl
@[simp] theorem fone_319_2 : fone Tryz.prog 319 2 = some 2 := by kernel_rfl
@[simp] theorem foff_319_3 : foff Tryz.prog 319 3 = some (3, 1) := by kernel_rfl
@[simp] theorem fone_319_3 : fone Tryz.prog 319 3 = some 3 := by kernel_rfl
@[simp] theorem places_319 : places Tryz.prog 319 = some [(0, 1), (1, 1), (2, 1), (3, 1)] := by kernel_rfl
@[simp] theorem zc_319 : zcells Tryz.prog 319 = some [.pointer none, .pointer none, .pointer none, .string ByteArray.empty] := by kernel_rfl
@[simp] theorem tag_320 : tag Tryz.prog 320 = some true := by kernel_rfl
@[simp] theorem tsz_320 : tsz Tryz.prog 320 = some 4 := by kernel_rfl
@[simp] theorem byt_320 : byt Tryz.prog 320 = some 40 := by kernel_rfl
@[simp] theorem elt_320 : elt Tryz.prog 320 = none := by kernel_rfl
@[simp] theorem foff_320_0 : foff Tryz.prog 320 0 = some (0, 1) := by kernel_rfl
@[simp] theorem fone_320_0 : fone Tryz.prog 320 0 = some 0 := by kernel_rfl
@[simp] theorem foff_320_1 : foff Tryz.prog 320 1 = some (1, 1) := by kernel_rfl
@[simp] theorem fone_320_1 : fone Tryz.prog 320 1 = some 1 := by kernel_rfl
@[simp] theorem foff_320_2 : foff Tryz.prog 320 2 = some (2, 1) := by kernel_rfl
@[simp] theorem fone_320_2 : fone Tryz.prog 320 2 = some 2 := by kernel_rfl
@[simp] theorem foff_320_3 : foff Tryz.prog 320 3 = some (3, 1) := by kernel_rfl
@[simp] theorem fone_320_3 : fone Tryz.prog 320 3 = some 3 := by kernel_rfl
@[simp] theorem places_320 : places Tryz.prog 320 = some [(0, 1), (1, 1), (2, 1), (3, 1)] := by kernel_rfl
@[simp] theorem zc_320 : zcells Tryz.prog 320 = some [.pointer none, .pointer none, .pointer none, .string ByteArray.empty] := by kernel_rfl
@[simp] theorem tag_321 : tag Tryz.prog 321 = some true := by kernel_rfl
@[simp] theorem tsz_321 : tsz Tryz.prog 321 = some 0 := by kernel_rfl
@[simp] theorem byt_321 : byt Tryz.prog 321 = some 0 := by kernel_rfl
@[simp] theorem elt_321 : elt Tryz.prog 321 = none := by kernel_rfl
@[simp] theorem arr_321 : arr Tryz.prog 321 = some (0, 1) := by kernel_rfl
@[simp] theorem zc_321 : zcells Tryz.prog 321 = some [] := by kernel_rfl
@[simp] theorem tag_322 : tag Tryz.prog 322 = some true := by kernel_rfl
@[simp] theorem tsz_322 : tsz Tryz.prog 322 = some 0 := by kernel_rfl
@[simp] theorem byt_322 : byt Tryz.prog 322 = some 0 := by kernel_rfl
@[simp] theorem elt_322 : elt Tryz.prog 322 = none := by kernel_rfl
@[simp] theorem places_322 : places Tryz.prog 322 = some [(0, 0)] := by kernel_rfl
@[simp] theorem zc_322 : zcells Tryz.prog 322 = some [] := by kernel_rfl
@[simp] theorem tag_323 : tag Tryz.prog 323 = some true := by kernel_rfl
@[simp] theorem tsz_323 : tsz Tryz.prog 323 = some 0 := by kernel_rfl
@[simp] theorem byt_323 : byt Tryz.prog 323 = some 0 := by kernel_rfl
@[simp] theorem elt_323 : elt Tryz.prog 323 = none := by kernel_rfl
@[simp] theorem places_323 : places Tryz.prog 323 = some [(0, 0)] := by kernel_rfl
@[simp] theorem zc_323 : zcells Tryz.prog 323 = some [] := by kernel_rfl
@[simp] theorem tag_324 : tag Tryz.prog 324 = some false := by kernel_rfl
@[simp] theorem tsz_324 : tsz Tryz.prog 324 = some 1 := by kernel_rfl
@[simp] theorem byt_324 : byt Tryz.prog 324 = some 8 := by kernel_rfl
@[simp] theorem elt_324 : elt Tryz.prog 324 = none := by kernel_rfl
@[simp] theorem zc_324 : zcells Tryz.prog 324 = some [.nilFunc] := by kernel_rfl
@[simp] theorem tag_325 : tag Tryz.prog 325 = some false := by kernel_rfl
@[simp] theorem tsz_325 : tsz Tryz.prog 325 = some 1 := by kernel_rfl
@[simp] theorem byt_325 : byt Tryz.prog 325 = some 1 := by kernel_rfl
@[simp] theorem elt_325 : elt Tryz.prog 325 = none := by kernel_rfl
@[simp] theorem tint_325 : tint Tryz.prog 325 = some .u8 := by kernel_rfl
@[simp] theorem und_325 : Program.underlying Tryz.prog 325 = some (.int .u8) := by kernel_rfl
@[simp] theorem zc_325 : zcells Tryz.prog 325 = some [.int .u8 (0)] := by kernel_rfl
@[simp] theorem tag_326 : tag Tryz.prog 326 = some false := by kernel_rfl
@[simp] theorem tsz_326 : tsz Tryz.prog 326 = some 1 := by kernel_rfl
@[simp] theorem byt_326 : byt Tryz.prog 326 = some 1 := by kernel_rfl
@[simp] theorem elt_326 : elt Tryz.prog 326 = none := by kernel_rfl
@[simp] theorem tint_326 : tint Tryz.prog 326 = some .u8 := by kernel_rfl
@[simp] theorem und_326 : Program.underlying Tryz.prog 326 = some (.int .u8) := by kernel_rfl
@[simp] theorem zc_326 : zcells Tryz.prog 326 = some [.int .u8 (0)] := by kernel_rfl
@[simp] theorem tag_327 : tag Tryz.prog 327 = some false := by kernel_rfl
@[simp] theorem tsz_327 : tsz Tryz.prog 327 = some 1 := by kernel_rfl
@[simp] theorem byt_327 : byt Tryz.prog 327 = some 8 := by kernel_rfl
@[simp] theorem elt_327 : elt Tryz.prog 327 = none := by kernel_rfl
@[simp] theorem zc_327 : zcells Tryz.prog 327 = some [.nilFunc] := by kernel_rfl
@[simp] theorem tag_328 : tag Tryz.prog 328 = some false := by kernel_rfl
@[simp] theorem tsz_328 : tsz Tryz.prog 328 = some 1 := by kernel_rfl
@[simp] theorem byt_328 : byt Tryz.prog 328 = some 8 := by kernel_rfl
@[simp] theorem elt_328 : elt Tryz.prog 328 = none := by kernel_rfl
@[simp] theorem isPtr_328 : isPtr Tryz.prog 328 = true := by kernel_rfl
@[simp] theorem zc_328 : zcells Tryz.prog 328 = some [.pointer none] := by kernel_rfl
@[simp] theorem tag_329 : tag Tryz.prog 329 = some false := by kernel_rfl
@[simp] theorem tsz_329 : tsz Tryz.prog 329 = some 1 := by kernel_rfl
@[simp] theorem byt_329 : byt Tryz.prog 329 = some 4 := by kernel_rfl
@[simp] theorem elt_329 : elt Tryz.prog 329 = none := by kernel_rfl
@[simp] theorem tint_329 : tint Tryz.prog 329 = some .i32 := by kernel_rfl
@[simp] theorem und_329 : Program.underlying Tryz.prog 329 = some (.int .i32) := by kernel_rfl
@[simp] theorem zc_329 : zcells Tryz.prog 329 = some [.int .i32 (0)] := by kernel_rfl
@[simp] theorem tag_330 : tag Tryz.prog 330 = some false := by kernel_rfl
@[simp] theorem tsz_330 : tsz Tryz.prog 330 = some 1 := by kernel_rfl
@[simp] theorem byt_330 : byt Tryz.prog 330 = some 4 := by kernel_rfl
@[simp] theorem elt_330 : elt Tryz.prog 330 = none := by kernel_rfl
@[simp] theorem tint_330 : tint Tryz.prog 330 = some .i32 := by kernel_rfl
@[simp] theorem und_330 : Program.underlying Tryz.prog 330 = some (.int .i32) := by kernel_rfl
@[simp] theorem zc_330 : zcells Tryz.prog 330 = some [.int .i32 (0)] := by kernel_rfl
@[simp] theorem tag_331 : tag Tryz.prog 331 = some true := by kernel_rfl
@[simp] theorem tsz_331 : tsz Tryz.prog 331 = some 11 := by kernel_rfl
@[simp] theorem byt_331 : byt Tryz.prog 331 = some 48 := by kernel_rfl
@[simp] theorem elt_331 : elt Tryz.prog 331 = none := by kernel_rfl
@[simp] theorem foff_331_0 : foff Tryz.prog 331 0 = some (0, 1) := by kernel_rfl
@[simp] theorem fone_331_0 : fone Tryz.prog 331 0 = some 0 := by kernel_rfl
@[simp] theorem foff_331_1 : foff Tryz.prog 331 1 = some (1, 1) := by kernel_rfl
@[simp] theorem fone_331_1 : fone Tryz.prog 331 1 = some 1 := by kernel_rfl
@[simp] theorem foff_331_2 : foff Tryz.prog 331 2 = some (2, 1) := by kernel_rfl
@[simp] theorem fone_331_2 : fone Tryz.prog 331 2 = some 2 := by kernel_rfl
@[simp] theorem foff_331_3 : foff Tryz.prog 331 3 = some (3, 1) := by kernel_rfl
@[simp] theorem fone_331_3 : fone Tryz.prog 331 3 = some 3 := by kernel_rfl
@[simp] theorem foff_331_4 : foff Tryz.prog 331 4 = some (4, 1) := by kernel_rfl
@[simp] theorem fone_331_4 : fone Tryz.prog 331 4 = some 4 := by kernel_rfl
@[simp] theorem foff_331_5 : foff Tryz.prog 331 5 = some (5, 1) := by kernel_rfl
@[simp] theorem fone_331_5 : fone Tryz.prog 331 5 = some 5 := by kernel_rfl
@[simp] theorem foff_331_6 : foff Tryz.prog 331 6 = some (6, 1) := by kernel_rfl
@[simp] theorem fone_331_6 : fone Tryz.prog 331 6 = some 6 := by kernel_rfl
@[simp] theorem foff_331_7 : foff Tryz.prog 331 7 = some (7, 1) := by kernel_rfl
@[simp] theorem fone_331_7 : fone Tryz.prog 331 7 = some 7 := by kernel_rfl
@[simp] theorem foff_331_8 : foff Tryz.prog 331 8 = some (8, 1) := by kernel_rfl
@[simp] theorem fone_331_8 : fone Tryz.prog 331 8 = some 8 := by kernel_rfl
@[simp] theorem foff_331_9 : foff Tryz.prog 331 9 = some (9, 1) := by kernel_rfl
@[simp] theorem fone_331_9 : fone Tryz.prog 331 9 = some 9 := by kernel_rfl
@[simp] theorem foff_331_10 : foff Tryz.prog 331 10 = some (10, 1) := by kernel_rfl
@[simp] theorem fone_331_10 : fone Tryz.prog 331 10 = some 10 := by kernel_rfl
@[simp] theorem places_331 : places Tryz.prog 331 = some [(0, 1), (1, 1), (2, 1), (3, 1), (4, 1), (5, 1), (6, 1), (7, 1), (8, 1), (9, 1), (10, 1)] := by kernel_rfl
@[simp] theorem zc_331 : zcells Tryz.prog 331 = some [.int .u64 (0), .int .u64 (0), .int .u32 (0), .int .u8 (0), .int .u8 (0), .int .u8 (0), .int .u8 (0), .nilFunc, .pointer none, .int .i32 (0), .int .i32 (0)] := by kernel_rfl
@[simp] theorem tag_332 : tag Tryz.prog 332 = some true := by kernel_rfl
@[simp] theorem tsz_332 : tsz Tryz.prog 332 = some 11 := by kernel_rfl
@[simp] theorem byt_332 : byt Tryz.prog 332 = some 48 := by kernel_rfl
@[simp] theorem elt_332 : elt Tryz.prog 332 = none := by kernel_rfl
@[simp] theorem foff_332_0 : foff Tryz.prog 332 0 = some (0, 1) := by kernel_rfl
@[simp] theorem fone_332_0 : fone Tryz.prog 332 0 = some 0 := by kernel_rfl
@[simp] theorem foff_332_1 : foff Tryz.prog 332 1 = some (1, 1) := by kernel_rfl
@[simp] theorem fone_332_1 : fone Tryz.prog 332 1 = some 1 := by kernel_rfl
@[simp] theorem foff_332_2 : foff Tryz.prog 332 2 = some (2, 1) := by kernel_rfl
@[simp] theorem fone_332_2 : fone Tryz.prog 332 2 = some 2 := by kernel_rfl
@[simp] theorem foff_332_3 : foff Tryz.prog 332 3 = some (3, 1) := by kernel_rfl
@[simp] theorem fone_332_3 : fone Tryz.prog 332 3 = some 3 := by kernel_rfl
@[simp] theorem foff_332_4 : foff Tryz.prog 332 4 = some (4, 1) := by kernel_rfl
@[simp] theorem fone_332_4 : fone Tryz.prog 332 4 = some 4 := by kernel_rfl
@[simp] theorem foff_332_5 : foff Tryz.prog 332 5 = some (5, 1) := by kernel_rfl
@[simp] theorem fone_332_5 : fone Tryz.prog 332 5 = some 5 := by kernel_rfl
@[simp] theorem foff_332_6 : foff Tryz.prog 332 6 = some (6, 1) := by kernel_rfl
@[simp] theorem fone_332_6 : fone Tryz.prog 332 6 = some 6 := by kernel_rfl
@[simp] theorem foff_332_7 : foff Tryz.prog 332 7 = some (7, 1) := by kernel_rfl
@[simp] theorem fone_332_7 : fone Tryz.prog 332 7 = some 7 := by kernel_rfl
@[simp] theorem foff_332_8 : foff Tryz.prog 332 8 = some (8, 1) := by kernel_rfl
@[simp] theorem fone_332_8 : fone Tryz.prog 332 8 = some 8 := by kernel_rfl
@[simp] theorem foff_332_9 : foff Tryz.prog 332 9 = some (9, 1) := by kernel_rfl
@[simp] theorem fone_332_9 : fone Tryz.prog 332 9 = some 9 := by kernel_rfl
@[simp] theorem foff_332_10 : foff Tryz.prog 332 10 = some (10, 1) := by kernel_rfl
@[simp] theorem fone_332_10 : fone Tryz.prog 332 10 = some 10 := by kernel_rfl
@[simp] theorem places_332 : places Tryz.prog 332 = some [(0, 1), (1, 1), (2, 1), (3, 1), (4, 1), (5, 1), (6, 1), (7, 1), (8, 1), (9, 1), (10, 1)] := by kernel_rfl
@[simp] theorem zc_332 : zcells Tryz.prog 332 = some [.int .u64 (0), .int .u64 (0), .int .u32 (0), .int .u8 (0), .int .u8 (0), .int .u8 (0), .int .u8 (0), .nilFunc, .pointer none, .int .i32 (0), .int .i32 (0)] := by kernel_rfl
@[simp] theorem tag_333 : tag Tryz.prog 333 = some false := by kernel_rfl
@[simp] theorem tsz_333 : tsz Tryz.prog 333 = some 1 := by kernel_rfl
@[simp] theorem byt_333 : byt Tryz.prog 333 = some 8 := by kernel_rfl
@[simp] theorem elt_333 : elt Tryz.prog 333 = none := by kernel_rfl
@[simp] theorem zc_333 : zcells Tryz.prog 333 = some [.pointer none] := by kernel_rfl
end Go.Am

