/- Helpers: an abstract machine for Go functions, and walks of functions of the program. -/
import Derived.Test.YtbelgphoccpelaaGreatDoorKn05
import Derived.Test.YtbelgphoccpelaaGreatDoorProg

set_option linter.all false
set_option maxHeartbeats 8000000
set_option maxRecDepth 100000
namespace Go.Am.Ty
@[simp] theorem szT_2 : szT Go.Proofs.Tryz.prog 2 = 1 := by kernel_rfl
@[simp] theorem infoS_2 : (Go.Proofs.Tryz.prog.info? 2).isSome = true := by kernel_rfl
@[simp] theorem aggT_2 : aggT Go.Proofs.Tryz.prog 2 = some false := by kernel_rfl
@[simp] theorem strT_2 : strT Go.Proofs.Tryz.prog 2 = false := by kernel_rfl
@[simp] theorem intT_2 : intT Go.Proofs.Tryz.prog 2 = some .i64 := by kernel_rfl
@[simp] theorem zcells_2 : zcells Go.Proofs.Tryz.prog 2 = some [.d (.int .i64 0)] := by kernel_rfl
@[simp] theorem tbytes_2 : tbytes Go.Proofs.Tryz.prog 2 = some 8 := by kernel_rfl
@[simp] theorem concrete_2 : Go.Proofs.Tryz.prog.concrete 2 = true := by kernel_rfl
@[simp] theorem eqGuard_2 : Go.Proofs.Tryz.prog.eqGuardType Go.Proofs.Tryz.prog.depth 2 = false := by kernel_rfl
@[simp] theorem szT_3 : szT Go.Proofs.Tryz.prog 3 = 1 := by kernel_rfl
@[simp] theorem infoS_3 : (Go.Proofs.Tryz.prog.info? 3).isSome = true := by kernel_rfl
@[simp] theorem aggT_3 : aggT Go.Proofs.Tryz.prog 3 = some false := by kernel_rfl
@[simp] theorem strT_3 : strT Go.Proofs.Tryz.prog 3 = false := by kernel_rfl
@[simp] theorem intT_3 : intT Go.Proofs.Tryz.prog 3 = some .i64 := by kernel_rfl
@[simp] theorem zcells_3 : zcells Go.Proofs.Tryz.prog 3 = some [.d (.int .i64 0)] := by kernel_rfl
@[simp] theorem tbytes_3 : tbytes Go.Proofs.Tryz.prog 3 = some 8 := by kernel_rfl
@[simp] theorem concrete_3 : Go.Proofs.Tryz.prog.concrete 3 = true := by kernel_rfl
@[simp] theorem eqGuard_3 : Go.Proofs.Tryz.prog.eqGuardType Go.Proofs.Tryz.prog.depth 3 = false := by kernel_rfl
@[simp] theorem szT_4 : szT Go.Proofs.Tryz.prog 4 = 1 := by kernel_rfl
@[simp] theorem infoS_4 : (Go.Proofs.Tryz.prog.info? 4).isSome = true := by kernel_rfl
@[simp] theorem aggT_4 : aggT Go.Proofs.Tryz.prog 4 = some false := by kernel_rfl
@[simp] theorem strT_4 : strT Go.Proofs.Tryz.prog 4 = false := by kernel_rfl
@[simp] theorem zcells_4 : zcells Go.Proofs.Tryz.prog 4 = some [.d (.bool false)] := by kernel_rfl
@[simp] theorem tbytes_4 : tbytes Go.Proofs.Tryz.prog 4 = some 1 := by kernel_rfl
@[simp] theorem concrete_4 : Go.Proofs.Tryz.prog.concrete 4 = true := by kernel_rfl
@[simp] theorem eqGuard_4 : Go.Proofs.Tryz.prog.eqGuardType Go.Proofs.Tryz.prog.depth 4 = false := by kernel_rfl
@[simp] theorem szT_5 : szT Go.Proofs.Tryz.prog 5 = 1 := by kernel_rfl
@[simp] theorem infoS_5 : (Go.Proofs.Tryz.prog.info? 5).isSome = true := by kernel_rfl
@[simp] theorem aggT_5 : aggT Go.Proofs.Tryz.prog 5 = some false := by kernel_rfl
@[simp] theorem strT_5 : strT Go.Proofs.Tryz.prog 5 = false := by kernel_rfl
@[simp] theorem intT_5 : intT Go.Proofs.Tryz.prog 5 = some .u8 := by kernel_rfl
@[simp] theorem zcells_5 : zcells Go.Proofs.Tryz.prog 5 = some [.d (.int .u8 0)] := by kernel_rfl
@[simp] theorem tbytes_5 : tbytes Go.Proofs.Tryz.prog 5 = some 1 := by kernel_rfl
@[simp] theorem concrete_5 : Go.Proofs.Tryz.prog.concrete 5 = true := by kernel_rfl
@[simp] theorem eqGuard_5 : Go.Proofs.Tryz.prog.eqGuardType Go.Proofs.Tryz.prog.depth 5 = false := by kernel_rfl
@[simp] theorem szT_9 : szT Go.Proofs.Tryz.prog 9 = 1 := by kernel_rfl
@[simp] theorem infoS_9 : (Go.Proofs.Tryz.prog.info? 9).isSome = true := by kernel_rfl
@[simp] theorem aggT_9 : aggT Go.Proofs.Tryz.prog 9 = some false := by kernel_rfl
@[simp] theorem strT_9 : strT Go.Proofs.Tryz.prog 9 = true := by kernel_rfl
@[simp] theorem zcells_9 : zcells Go.Proofs.Tryz.prog 9 = some [.d (.str [])] := by kernel_rfl
@[simp] theorem tbytes_9 : tbytes Go.Proofs.Tryz.prog 9 = some 16 := by kernel_rfl
@[simp] theorem concrete_9 : Go.Proofs.Tryz.prog.concrete 9 = true := by kernel_rfl
@[simp] theorem eqGuard_9 : Go.Proofs.Tryz.prog.eqGuardType Go.Proofs.Tryz.prog.depth 9 = false := by kernel_rfl
@[simp] theorem szT_22 : szT Go.Proofs.Tryz.prog 22 = 1 := by kernel_rfl
@[simp] theorem infoS_22 : (Go.Proofs.Tryz.prog.info? 22).isSome = true := by kernel_rfl
@[simp] theorem aggT_22 : aggT Go.Proofs.Tryz.prog 22 = some false := by kernel_rfl
@[simp] theorem strT_22 : strT Go.Proofs.Tryz.prog 22 = true := by kernel_rfl
@[simp] theorem zcells_22 : zcells Go.Proofs.Tryz.prog 22 = some [.d (.str [])] := by kernel_rfl
@[simp] theorem tbytes_22 : tbytes Go.Proofs.Tryz.prog 22 = some 16 := by kernel_rfl
@[simp] theorem concrete_22 : Go.Proofs.Tryz.prog.concrete 22 = true := by kernel_rfl
@[simp] theorem eqGuard_22 : Go.Proofs.Tryz.prog.eqGuardType Go.Proofs.Tryz.prog.depth 22 = false := by kernel_rfl
@[simp] theorem szT_24 : szT Go.Proofs.Tryz.prog 24 = 2 := by kernel_rfl
@[simp] theorem infoS_24 : (Go.Proofs.Tryz.prog.info? 24).isSome = true := by kernel_rfl
@[simp] theorem aggT_24 : aggT Go.Proofs.Tryz.prog 24 = some true := by kernel_rfl
@[simp] theorem fldT_24_0 : fldT Go.Proofs.Tryz.prog 24 0 = some (0, 22) := by kernel_rfl
@[simp] theorem fldT_24_1 : fldT Go.Proofs.Tryz.prog 24 1 = some (1, 22) := by kernel_rfl
@[simp] theorem strT_24 : strT Go.Proofs.Tryz.prog 24 = false := by kernel_rfl
@[simp] theorem zcells_24 : zcells Go.Proofs.Tryz.prog 24 = some [.d (.str []), .d (.str [])] := by kernel_rfl
@[simp] theorem tbytes_24 : tbytes Go.Proofs.Tryz.prog 24 = some 32 := by kernel_rfl
@[simp] theorem concrete_24 : Go.Proofs.Tryz.prog.concrete 24 = true := by kernel_rfl
@[simp] theorem eqGuard_24 : Go.Proofs.Tryz.prog.eqGuardType Go.Proofs.Tryz.prog.depth 24 = false := by kernel_rfl
@[simp] theorem szT_26 : szT Go.Proofs.Tryz.prog 26 = 6 := by kernel_rfl
@[simp] theorem infoS_26 : (Go.Proofs.Tryz.prog.info? 26).isSome = true := by kernel_rfl
@[simp] theorem aggT_26 : aggT Go.Proofs.Tryz.prog 26 = some true := by kernel_rfl
@[simp] theorem fldT_26_0 : fldT Go.Proofs.Tryz.prog 26 0 = some (0, 24) := by kernel_rfl
@[simp] theorem fldT_26_1 : fldT Go.Proofs.Tryz.prog 26 1 = some (2, 24) := by kernel_rfl
@[simp] theorem fldT_26_2 : fldT Go.Proofs.Tryz.prog 26 2 = some (4, 3) := by kernel_rfl
@[simp] theorem fldT_26_3 : fldT Go.Proofs.Tryz.prog 26 3 = some (5, 9) := by kernel_rfl
@[simp] theorem strT_26 : strT Go.Proofs.Tryz.prog 26 = false := by kernel_rfl
@[simp] theorem zcells_26 : zcells Go.Proofs.Tryz.prog 26 = some [.d (.str []), .d (.str []), .d (.str []), .d (.str []), .d (.int .i64 0), .d (.str [])] := by kernel_rfl
@[simp] theorem tbytes_26 : tbytes Go.Proofs.Tryz.prog 26 = some 88 := by kernel_rfl
@[simp] theorem concrete_26 : Go.Proofs.Tryz.prog.concrete 26 = true := by kernel_rfl
@[simp] theorem eqGuard_26 : Go.Proofs.Tryz.prog.eqGuardType Go.Proofs.Tryz.prog.depth 26 = false := by kernel_rfl
@[simp] theorem szT_27 : szT Go.Proofs.Tryz.prog 27 = 1 := by kernel_rfl
@[simp] theorem infoS_27 : (Go.Proofs.Tryz.prog.info? 27).isSome = true := by kernel_rfl
@[simp] theorem aggT_27 : aggT Go.Proofs.Tryz.prog 27 = some false := by kernel_rfl
@[simp] theorem slT_27 : slT Go.Proofs.Tryz.prog 27 = some (95, 1) := by kernel_rfl
@[simp] theorem strT_27 : strT Go.Proofs.Tryz.prog 27 = false := by kernel_rfl
@[simp] theorem zcells_27 : zcells Go.Proofs.Tryz.prog 27 = some [.d (.nilsl)] := by kernel_rfl
@[simp] theorem tbytes_27 : tbytes Go.Proofs.Tryz.prog 27 = some 24 := by kernel_rfl
@[simp] theorem concrete_27 : Go.Proofs.Tryz.prog.concrete 27 = true := by kernel_rfl
@[simp] theorem eqGuard_27 : Go.Proofs.Tryz.prog.eqGuardType Go.Proofs.Tryz.prog.depth 27 = false := by kernel_rfl
@[simp] theorem szT_28 : szT Go.Proofs.Tryz.prog 28 = 1 := by kernel_rfl
@[simp] theorem infoS_28 : (Go.Proofs.Tryz.prog.info? 28).isSome = true := by kernel_rfl
@[simp] theorem aggT_28 : aggT Go.Proofs.Tryz.prog 28 = some false := by kernel_rfl
@[simp] theorem slT_28 : slT Go.Proofs.Tryz.prog 28 = some (95, 1) := by kernel_rfl
@[simp] theorem strT_28 : strT Go.Proofs.Tryz.prog 28 = false := by kernel_rfl
@[simp] theorem zcells_28 : zcells Go.Proofs.Tryz.prog 28 = some [.d (.nilsl)] := by kernel_rfl
@[simp] theorem tbytes_28 : tbytes Go.Proofs.Tryz.prog 28 = some 24 := by kernel_rfl
@[simp] theorem concrete_28 : Go.Proofs.Tryz.prog.concrete 28 = true := by kernel_rfl
@[simp] theorem eqGuard_28 : Go.Proofs.Tryz.prog.eqGuardType Go.Proofs.Tryz.prog.depth 28 = false := by kernel_rfl
@[simp] theorem szT_30 : szT Go.Proofs.Tryz.prog 30 = 3 := by kernel_rfl
@[simp] theorem infoS_30 : (Go.Proofs.Tryz.prog.info? 30).isSome = true := by kernel_rfl
@[simp] theorem aggT_30 : aggT Go.Proofs.Tryz.prog 30 = some true := by kernel_rfl
@[simp] theorem fldT_30_0 : fldT Go.Proofs.Tryz.prog 30 0 = some (0, 4) := by kernel_rfl
@[simp] theorem fldT_30_1 : fldT Go.Proofs.Tryz.prog 30 1 = some (1, 28) := by kernel_rfl
@[simp] theorem fldT_30_2 : fldT Go.Proofs.Tryz.prog 30 2 = some (2, 28) := by kernel_rfl
@[simp] theorem strT_30 : strT Go.Proofs.Tryz.prog 30 = false := by kernel_rfl
@[simp] theorem zcells_30 : zcells Go.Proofs.Tryz.prog 30 = some [.d (.bool false), .d (.nilsl), .d (.nilsl)] := by kernel_rfl
@[simp] theorem tbytes_30 : tbytes Go.Proofs.Tryz.prog 30 = some 56 := by kernel_rfl
@[simp] theorem concrete_30 : Go.Proofs.Tryz.prog.concrete 30 = true := by kernel_rfl
@[simp] theorem eqGuard_30 : Go.Proofs.Tryz.prog.eqGuardType Go.Proofs.Tryz.prog.depth 30 = false := by kernel_rfl
@[simp] theorem szT_32 : szT Go.Proofs.Tryz.prog 32 = 6 := by kernel_rfl
@[simp] theorem infoS_32 : (Go.Proofs.Tryz.prog.info? 32).isSome = true := by kernel_rfl
@[simp] theorem aggT_32 : aggT Go.Proofs.Tryz.prog 32 = some true := by kernel_rfl
@[simp] theorem fldT_32_0 : fldT Go.Proofs.Tryz.prog 32 0 = some (0, 30) := by kernel_rfl
@[simp] theorem fldT_32_1 : fldT Go.Proofs.Tryz.prog 32 1 = some (3, 30) := by kernel_rfl
@[simp] theorem strT_32 : strT Go.Proofs.Tryz.prog 32 = false := by kernel_rfl
@[simp] theorem zcells_32 : zcells Go.Proofs.Tryz.prog 32 = some [.d (.bool false), .d (.nilsl), .d (.nilsl), .d (.bool false), .d (.nilsl), .d (.nilsl)] := by kernel_rfl
@[simp] theorem tbytes_32 : tbytes Go.Proofs.Tryz.prog 32 = some 112 := by kernel_rfl
@[simp] theorem concrete_32 : Go.Proofs.Tryz.prog.concrete 32 = true := by kernel_rfl
@[simp] theorem eqGuard_32 : Go.Proofs.Tryz.prog.eqGuardType Go.Proofs.Tryz.prog.depth 32 = false := by kernel_rfl
@[simp] theorem szT_76 : szT Go.Proofs.Tryz.prog 76 = 1 := by kernel_rfl
@[simp] theorem infoS_76 : (Go.Proofs.Tryz.prog.info? 76).isSome = true := by kernel_rfl
@[simp] theorem aggT_76 : aggT Go.Proofs.Tryz.prog 76 = some false := by kernel_rfl
@[simp] theorem strT_76 : strT Go.Proofs.Tryz.prog 76 = false := by kernel_rfl
@[simp] theorem intT_76 : intT Go.Proofs.Tryz.prog 76 = some .u64 := by kernel_rfl
@[simp] theorem zcells_76 : zcells Go.Proofs.Tryz.prog 76 = some [.d (.int .u64 0)] := by kernel_rfl
@[simp] theorem tbytes_76 : tbytes Go.Proofs.Tryz.prog 76 = some 8 := by kernel_rfl
@[simp] theorem concrete_76 : Go.Proofs.Tryz.prog.concrete 76 = true := by kernel_rfl
@[simp] theorem eqGuard_76 : Go.Proofs.Tryz.prog.eqGuardType Go.Proofs.Tryz.prog.depth 76 = false := by kernel_rfl
@[simp] theorem szT_94 : szT Go.Proofs.Tryz.prog 94 = 1 := by kernel_rfl
@[simp] theorem infoS_94 : (Go.Proofs.Tryz.prog.info? 94).isSome = true := by kernel_rfl
@[simp] theorem aggT_94 : aggT Go.Proofs.Tryz.prog 94 = some false := by kernel_rfl
@[simp] theorem slT_94 : slT Go.Proofs.Tryz.prog 94 = some (30, 3) := by kernel_rfl
@[simp] theorem strT_94 : strT Go.Proofs.Tryz.prog 94 = false := by kernel_rfl
@[simp] theorem zcells_94 : zcells Go.Proofs.Tryz.prog 94 = some [.d (.nilsl)] := by kernel_rfl
@[simp] theorem tbytes_94 : tbytes Go.Proofs.Tryz.prog 94 = some 24 := by kernel_rfl
@[simp] theorem concrete_94 : Go.Proofs.Tryz.prog.concrete 94 = true := by kernel_rfl
@[simp] theorem eqGuard_94 : Go.Proofs.Tryz.prog.eqGuardType Go.Proofs.Tryz.prog.depth 94 = false := by kernel_rfl
@[simp] theorem szT_95 : szT Go.Proofs.Tryz.prog 95 = 1 := by kernel_rfl
@[simp] theorem infoS_95 : (Go.Proofs.Tryz.prog.info? 95).isSome = true := by kernel_rfl
@[simp] theorem aggT_95 : aggT Go.Proofs.Tryz.prog 95 = some false := by kernel_rfl
@[simp] theorem strT_95 : strT Go.Proofs.Tryz.prog 95 = false := by kernel_rfl
@[simp] theorem intT_95 : intT Go.Proofs.Tryz.prog 95 = some .u32 := by kernel_rfl
@[simp] theorem zcells_95 : zcells Go.Proofs.Tryz.prog 95 = some [.d (.int .u32 0)] := by kernel_rfl
@[simp] theorem tbytes_95 : tbytes Go.Proofs.Tryz.prog 95 = some 4 := by kernel_rfl
@[simp] theorem concrete_95 : Go.Proofs.Tryz.prog.concrete 95 = true := by kernel_rfl
@[simp] theorem eqGuard_95 : Go.Proofs.Tryz.prog.eqGuardType Go.Proofs.Tryz.prog.depth 95 = false := by kernel_rfl
@[simp] theorem szT_96 : szT Go.Proofs.Tryz.prog 96 = 1 := by kernel_rfl
@[simp] theorem infoS_96 : (Go.Proofs.Tryz.prog.info? 96).isSome = true := by kernel_rfl
@[simp] theorem aggT_96 : aggT Go.Proofs.Tryz.prog 96 = some false := by kernel_rfl
@[simp] theorem strT_96 : strT Go.Proofs.Tryz.prog 96 = false := by kernel_rfl
@[simp] theorem intT_96 : intT Go.Proofs.Tryz.prog 96 = some .u64 := by kernel_rfl
@[simp] theorem zcells_96 : zcells Go.Proofs.Tryz.prog 96 = some [.d (.int .u64 0)] := by kernel_rfl
@[simp] theorem tbytes_96 : tbytes Go.Proofs.Tryz.prog 96 = some 8 := by kernel_rfl
@[simp] theorem concrete_96 : Go.Proofs.Tryz.prog.concrete 96 = true := by kernel_rfl
@[simp] theorem eqGuard_96 : Go.Proofs.Tryz.prog.eqGuardType Go.Proofs.Tryz.prog.depth 96 = false := by kernel_rfl
@[simp] theorem szT_130 : szT Go.Proofs.Tryz.prog 130 = 256 := by kernel_rfl
@[simp] theorem infoS_130 : (Go.Proofs.Tryz.prog.info? 130).isSome = true := by kernel_rfl
@[simp] theorem aggT_130 : aggT Go.Proofs.Tryz.prog 130 = some true := by kernel_rfl
@[simp] theorem arT_130 : arT Go.Proofs.Tryz.prog 130 = some (256, 4, 1) := by kernel_rfl
@[simp] theorem strT_130 : strT Go.Proofs.Tryz.prog 130 = false := by kernel_rfl
@[simp] theorem tbytes_130 : tbytes Go.Proofs.Tryz.prog 130 = some 256 := by kernel_rfl
@[simp] theorem concrete_130 : Go.Proofs.Tryz.prog.concrete 130 = true := by kernel_rfl
@[simp] theorem eqGuard_130 : Go.Proofs.Tryz.prog.eqGuardType Go.Proofs.Tryz.prog.depth 130 = false := by kernel_rfl
@[simp] theorem isFn_4 : isFn Go.Proofs.Tryz.prog 4 = true := by kernel_rfl
@[simp] theorem isFn_5 : isFn Go.Proofs.Tryz.prog 5 = true := by kernel_rfl
@[simp] theorem isFn_6 : isFn Go.Proofs.Tryz.prog 6 = true := by kernel_rfl
@[simp] theorem isFn_7 : isFn Go.Proofs.Tryz.prog 7 = true := by kernel_rfl
@[simp] theorem isFn_8 : isFn Go.Proofs.Tryz.prog 8 = true := by kernel_rfl
@[simp] theorem isFn_9 : isFn Go.Proofs.Tryz.prog 9 = true := by kernel_rfl
@[simp] theorem isFn_10 : isFn Go.Proofs.Tryz.prog 10 = true := by kernel_rfl
@[simp] theorem isFn_11 : isFn Go.Proofs.Tryz.prog 11 = true := by kernel_rfl
@[simp] theorem isFn_12 : isFn Go.Proofs.Tryz.prog 12 = true := by kernel_rfl
@[simp] theorem isFn_13 : isFn Go.Proofs.Tryz.prog 13 = true := by kernel_rfl
@[simp] theorem isFn_14 : isFn Go.Proofs.Tryz.prog 14 = true := by kernel_rfl
@[simp] theorem isFn_15 : isFn Go.Proofs.Tryz.prog 15 = true := by kernel_rfl
@[simp] theorem isFn_16 : isFn Go.Proofs.Tryz.prog 16 = true := by kernel_rfl
@[simp] theorem isFn_17 : isFn Go.Proofs.Tryz.prog 17 = true := by kernel_rfl
@[simp] theorem isFn_18 : isFn Go.Proofs.Tryz.prog 18 = true := by kernel_rfl
@[simp] theorem isFn_19 : isFn Go.Proofs.Tryz.prog 19 = true := by kernel_rfl
@[simp] theorem isFn_20 : isFn Go.Proofs.Tryz.prog 20 = true := by kernel_rfl
@[simp] theorem isFn_21 : isFn Go.Proofs.Tryz.prog 21 = true := by kernel_rfl
@[simp] theorem isFn_22 : isFn Go.Proofs.Tryz.prog 22 = true := by kernel_rfl
@[simp] theorem isFn_23 : isFn Go.Proofs.Tryz.prog 23 = true := by kernel_rfl
@[simp] theorem isFn_24 : isFn Go.Proofs.Tryz.prog 24 = true := by kernel_rfl
@[simp] theorem isFn_25 : isFn Go.Proofs.Tryz.prog 25 = true := by kernel_rfl
@[simp] theorem isFn_26 : isFn Go.Proofs.Tryz.prog 26 = true := by kernel_rfl
@[simp] theorem isFn_27 : isFn Go.Proofs.Tryz.prog 27 = true := by kernel_rfl
@[simp] theorem isFn_28 : isFn Go.Proofs.Tryz.prog 28 = true := by kernel_rfl
@[simp] theorem isFn_29 : isFn Go.Proofs.Tryz.prog 29 = true := by kernel_rfl
@[simp] theorem isFn_30 : isFn Go.Proofs.Tryz.prog 30 = true := by kernel_rfl
@[simp] theorem isFn_31 : isFn Go.Proofs.Tryz.prog 31 = true := by kernel_rfl
@[simp] theorem isFn_32 : isFn Go.Proofs.Tryz.prog 32 = true := by kernel_rfl
@[simp] theorem isFn_38 : isFn Go.Proofs.Tryz.prog 38 = true := by kernel_rfl
@[simp] theorem isFn_39 : isFn Go.Proofs.Tryz.prog 39 = true := by kernel_rfl
@[simp] theorem isFn_40 : isFn Go.Proofs.Tryz.prog 40 = true := by kernel_rfl
@[simp] theorem isFn_41 : isFn Go.Proofs.Tryz.prog 41 = true := by kernel_rfl
@[simp] theorem isFn_42 : isFn Go.Proofs.Tryz.prog 42 = true := by kernel_rfl
@[simp] theorem isFn_43 : isFn Go.Proofs.Tryz.prog 43 = true := by kernel_rfl
@[simp] theorem isFn_44 : isFn Go.Proofs.Tryz.prog 44 = true := by kernel_rfl
@[simp] theorem isFn_45 : isFn Go.Proofs.Tryz.prog 45 = true := by kernel_rfl
@[simp] theorem isFn_46 : isFn Go.Proofs.Tryz.prog 46 = true := by kernel_rfl
@[simp] theorem isFn_47 : isFn Go.Proofs.Tryz.prog 47 = true := by kernel_rfl
@[simp] theorem isFn_48 : isFn Go.Proofs.Tryz.prog 48 = true := by kernel_rfl
@[simp] theorem isFn_49 : isFn Go.Proofs.Tryz.prog 49 = true := by kernel_rfl
@[simp] theorem isFn_50 : isFn Go.Proofs.Tryz.prog 50 = true := by kernel_rfl
@[simp] theorem isFn_51 : isFn Go.Proofs.Tryz.prog 51 = true := by kernel_rfl
@[simp] theorem isFn_52 : isFn Go.Proofs.Tryz.prog 52 = true := by kernel_rfl
@[simp] theorem isFn_53 : isFn Go.Proofs.Tryz.prog 53 = true := by kernel_rfl
@[simp] theorem isFn_54 : isFn Go.Proofs.Tryz.prog 54 = true := by kernel_rfl
@[simp] theorem isFn_55 : isFn Go.Proofs.Tryz.prog 55 = true := by kernel_rfl
@[simp] theorem isFn_56 : isFn Go.Proofs.Tryz.prog 56 = true := by kernel_rfl
@[simp] theorem isFn_57 : isFn Go.Proofs.Tryz.prog 57 = true := by kernel_rfl
@[simp] theorem isFn_63 : isFn Go.Proofs.Tryz.prog 63 = true := by kernel_rfl
@[simp] theorem isFn_64 : isFn Go.Proofs.Tryz.prog 64 = true := by kernel_rfl
@[simp] theorem isFn_65 : isFn Go.Proofs.Tryz.prog 65 = true := by kernel_rfl
@[simp] theorem isFn_66 : isFn Go.Proofs.Tryz.prog 66 = true := by kernel_rfl
@[simp] theorem isFn_67 : isFn Go.Proofs.Tryz.prog 67 = true := by kernel_rfl
@[simp] theorem isFn_68 : isFn Go.Proofs.Tryz.prog 68 = true := by kernel_rfl
@[simp] theorem isFn_69 : isFn Go.Proofs.Tryz.prog 69 = true := by kernel_rfl
@[simp] theorem isFn_70 : isFn Go.Proofs.Tryz.prog 70 = true := by kernel_rfl
@[simp] theorem isFn_83 : isFn Go.Proofs.Tryz.prog 83 = true := by kernel_rfl
@[simp] theorem isFn_84 : isFn Go.Proofs.Tryz.prog 84 = true := by kernel_rfl
@[simp] theorem isFn_85 : isFn Go.Proofs.Tryz.prog 85 = true := by kernel_rfl
@[simp] theorem isFn_86 : isFn Go.Proofs.Tryz.prog 86 = true := by kernel_rfl
@[simp] theorem isFn_87 : isFn Go.Proofs.Tryz.prog 87 = true := by kernel_rfl
@[simp] theorem isFn_88 : isFn Go.Proofs.Tryz.prog 88 = true := by kernel_rfl
@[simp] theorem isFn_89 : isFn Go.Proofs.Tryz.prog 89 = true := by kernel_rfl
@[simp] theorem isFn_90 : isFn Go.Proofs.Tryz.prog 90 = true := by kernel_rfl
@[simp] theorem isFn_91 : isFn Go.Proofs.Tryz.prog 91 = true := by kernel_rfl
@[simp] theorem isFn_92 : isFn Go.Proofs.Tryz.prog 92 = true := by kernel_rfl
@[simp] theorem isFn_93 : isFn Go.Proofs.Tryz.prog 93 = true := by kernel_rfl
@[simp] theorem isFn_94 : isFn Go.Proofs.Tryz.prog 94 = true := by kernel_rfl
@[simp] theorem isFn_95 : isFn Go.Proofs.Tryz.prog 95 = true := by kernel_rfl
@[simp] theorem isFn_98 : isFn Go.Proofs.Tryz.prog 98 = true := by kernel_rfl
@[simp] theorem isFn_99 : isFn Go.Proofs.Tryz.prog 99 = true := by kernel_rfl
@[simp] theorem isFn_100 : isFn Go.Proofs.Tryz.prog 100 = true := by kernel_rfl
@[simp] theorem isFn_118 : isFn Go.Proofs.Tryz.prog 118 = true := by kernel_rfl
@[simp] theorem isFn_119 : isFn Go.Proofs.Tryz.prog 119 = true := by kernel_rfl
@[simp] theorem isFn_120 : isFn Go.Proofs.Tryz.prog 120 = true := by kernel_rfl
@[simp] theorem isFn_124 : isFn Go.Proofs.Tryz.prog 124 = true := by kernel_rfl
end Go.Am.Ty
