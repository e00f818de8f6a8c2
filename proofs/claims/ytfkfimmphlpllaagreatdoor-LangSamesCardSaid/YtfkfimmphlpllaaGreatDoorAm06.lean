/- Helpers: an abstract machine for Go functions, and walks of functions of the program. -/
import Derived.Test.YtfkfimmphlpllaaGreatDoorAm05
import Derived.Test.YtfkfimmphlpllaaGreatDoorProg

set_option linter.all false

namespace Go.Am.Ty
@[simp] theorem szT_3 : szT Go.Proofs.Tryz.prog 3 = 1 := by kernel_rfl
@[simp] theorem infoS_3 : (Go.Proofs.Tryz.prog.info? 3).isSome = true := by kernel_rfl
@[simp] theorem aggT_3 : aggT Go.Proofs.Tryz.prog 3 = some false := by kernel_rfl
@[simp] theorem strT_3 : strT Go.Proofs.Tryz.prog 3 = false := by kernel_rfl
@[simp] theorem intT_3 : intT Go.Proofs.Tryz.prog 3 = some .i64 := by kernel_rfl
@[simp] theorem zcells_3 : zcells Go.Proofs.Tryz.prog 3 = some [.d (.int .i64 0)] := by kernel_rfl
@[simp] theorem tbytes_3 : tbytes Go.Proofs.Tryz.prog 3 = some 8 := by kernel_rfl
@[simp] theorem concrete_3 : Go.Proofs.Tryz.prog.concrete 3 = true := by kernel_rfl
@[simp] theorem eqGuard_3 : Go.Proofs.Tryz.prog.eqGuardType Go.Proofs.Tryz.prog.depth 3 = false := by kernel_rfl
@[simp] theorem szT_5 : szT Go.Proofs.Tryz.prog 5 = 1 := by kernel_rfl
@[simp] theorem infoS_5 : (Go.Proofs.Tryz.prog.info? 5).isSome = true := by kernel_rfl
@[simp] theorem aggT_5 : aggT Go.Proofs.Tryz.prog 5 = some false := by kernel_rfl
@[simp] theorem strT_5 : strT Go.Proofs.Tryz.prog 5 = false := by kernel_rfl
@[simp] theorem intT_5 : intT Go.Proofs.Tryz.prog 5 = some .u8 := by kernel_rfl
@[simp] theorem zcells_5 : zcells Go.Proofs.Tryz.prog 5 = some [.d (.int .u8 0)] := by kernel_rfl
@[simp] theorem tbytes_5 : tbytes Go.Proofs.Tryz.prog 5 = some 1 := by kernel_rfl
@[simp] theorem concrete_5 : Go.Proofs.Tryz.prog.concrete 5 = true := by kernel_rfl
@[simp] theorem eqGuard_5 : Go.Proofs.Tryz.prog.eqGuardType Go.Proofs.Tryz.prog.depth 5 = false := by kernel_rfl
@[simp] theorem szT_9 : szT Go.Proofs.Tryz.prog 9 = 1 := by kernel_rfl
@[simp] theorem infoS_9 : (Go.Proofs.Tryz.prog.info? 9).isSome = true := by kernel_rfl
@[simp] theorem aggT_9 : aggT Go.Proofs.Tryz.prog 9 = some false := by kernel_rfl
@[simp] theorem strT_9 : strT Go.Proofs.Tryz.prog 9 = true := by kernel_rfl
@[simp] theorem zcells_9 : zcells Go.Proofs.Tryz.prog 9 = some [.d (.str [])] := by kernel_rfl
@[simp] theorem tbytes_9 : tbytes Go.Proofs.Tryz.prog 9 = some 16 := by kernel_rfl
@[simp] theorem concrete_9 : Go.Proofs.Tryz.prog.concrete 9 = true := by kernel_rfl
@[simp] theorem eqGuard_9 : Go.Proofs.Tryz.prog.eqGuardType Go.Proofs.Tryz.prog.depth 9 = false := by kernel_rfl
@[simp] theorem szT_16 : szT Go.Proofs.Tryz.prog 16 = 1 := by kernel_rfl
@[simp] theorem infoS_16 : (Go.Proofs.Tryz.prog.info? 16).isSome = true := by kernel_rfl
@[simp] theorem aggT_16 : aggT Go.Proofs.Tryz.prog 16 = some false := by kernel_rfl
@[simp] theorem strT_16 : strT Go.Proofs.Tryz.prog 16 = false := by kernel_rfl
@[simp] theorem zcells_16 : zcells Go.Proofs.Tryz.prog 16 = some [.d (.nilp)] := by kernel_rfl
@[simp] theorem tbytes_16 : tbytes Go.Proofs.Tryz.prog 16 = some 8 := by kernel_rfl
@[simp] theorem concrete_16 : Go.Proofs.Tryz.prog.concrete 16 = true := by kernel_rfl
@[simp] theorem eqGuard_16 : Go.Proofs.Tryz.prog.eqGuardType Go.Proofs.Tryz.prog.depth 16 = false := by kernel_rfl
@[simp] theorem szT_17 : szT Go.Proofs.Tryz.prog 17 = 1 := by kernel_rfl
@[simp] theorem infoS_17 : (Go.Proofs.Tryz.prog.info? 17).isSome = true := by kernel_rfl
@[simp] theorem aggT_17 : aggT Go.Proofs.Tryz.prog 17 = some false := by kernel_rfl
@[simp] theorem strT_17 : strT Go.Proofs.Tryz.prog 17 = false := by kernel_rfl
@[simp] theorem zcells_17 : zcells Go.Proofs.Tryz.prog 17 = some [.d (.nilp)] := by kernel_rfl
@[simp] theorem tbytes_17 : tbytes Go.Proofs.Tryz.prog 17 = some 8 := by kernel_rfl
@[simp] theorem concrete_17 : Go.Proofs.Tryz.prog.concrete 17 = true := by kernel_rfl
@[simp] theorem eqGuard_17 : Go.Proofs.Tryz.prog.eqGuardType Go.Proofs.Tryz.prog.depth 17 = false := by kernel_rfl
@[simp] theorem szT_20 : szT Go.Proofs.Tryz.prog 20 = 1 := by kernel_rfl
@[simp] theorem infoS_20 : (Go.Proofs.Tryz.prog.info? 20).isSome = true := by kernel_rfl
@[simp] theorem aggT_20 : aggT Go.Proofs.Tryz.prog 20 = some false := by kernel_rfl
@[simp] theorem strT_20 : strT Go.Proofs.Tryz.prog 20 = false := by kernel_rfl
@[simp] theorem zcells_20 : zcells Go.Proofs.Tryz.prog 20 = some [.d (.nilIface)] := by kernel_rfl
@[simp] theorem tbytes_20 : tbytes Go.Proofs.Tryz.prog 20 = some 16 := by kernel_rfl
@[simp] theorem concrete_20 : Go.Proofs.Tryz.prog.concrete 20 = false := by kernel_rfl
@[simp] theorem eqGuard_20 : Go.Proofs.Tryz.prog.eqGuardType Go.Proofs.Tryz.prog.depth 20 = false := by kernel_rfl
@[simp] theorem szT_22 : szT Go.Proofs.Tryz.prog 22 = 1 := by kernel_rfl
@[simp] theorem infoS_22 : (Go.Proofs.Tryz.prog.info? 22).isSome = true := by kernel_rfl
@[simp] theorem aggT_22 : aggT Go.Proofs.Tryz.prog 22 = some false := by kernel_rfl
@[simp] theorem slT_22 : slT Go.Proofs.Tryz.prog 22 = some (81, 2) := by kernel_rfl
@[simp] theorem strT_22 : strT Go.Proofs.Tryz.prog 22 = false := by kernel_rfl
@[simp] theorem zcells_22 : zcells Go.Proofs.Tryz.prog 22 = some [.d (.nilsl)] := by kernel_rfl
@[simp] theorem tbytes_22 : tbytes Go.Proofs.Tryz.prog 22 = some 24 := by kernel_rfl
@[simp] theorem concrete_22 : Go.Proofs.Tryz.prog.concrete 22 = true := by kernel_rfl
@[simp] theorem eqGuard_22 : Go.Proofs.Tryz.prog.eqGuardType Go.Proofs.Tryz.prog.depth 22 = false := by kernel_rfl
@[simp] theorem szT_23 : szT Go.Proofs.Tryz.prog 23 = 1 := by kernel_rfl
@[simp] theorem infoS_23 : (Go.Proofs.Tryz.prog.info? 23).isSome = true := by kernel_rfl
@[simp] theorem aggT_23 : aggT Go.Proofs.Tryz.prog 23 = some false := by kernel_rfl
@[simp] theorem slT_23 : slT Go.Proofs.Tryz.prog 23 = some (67, 3) := by kernel_rfl
@[simp] theorem strT_23 : strT Go.Proofs.Tryz.prog 23 = false := by kernel_rfl
@[simp] theorem zcells_23 : zcells Go.Proofs.Tryz.prog 23 = some [.d (.nilsl)] := by kernel_rfl
@[simp] theorem tbytes_23 : tbytes Go.Proofs.Tryz.prog 23 = some 24 := by kernel_rfl
@[simp] theorem concrete_23 : Go.Proofs.Tryz.prog.concrete 23 = true := by kernel_rfl
@[simp] theorem eqGuard_23 : Go.Proofs.Tryz.prog.eqGuardType Go.Proofs.Tryz.prog.depth 23 = false := by kernel_rfl
@[simp] theorem szT_24 : szT Go.Proofs.Tryz.prog 24 = 1 := by kernel_rfl
@[simp] theorem infoS_24 : (Go.Proofs.Tryz.prog.info? 24).isSome = true := by kernel_rfl
@[simp] theorem aggT_24 : aggT Go.Proofs.Tryz.prog 24 = some false := by kernel_rfl
@[simp] theorem slT_24 : slT Go.Proofs.Tryz.prog 24 = some (55, 7) := by kernel_rfl
@[simp] theorem strT_24 : strT Go.Proofs.Tryz.prog 24 = false := by kernel_rfl
@[simp] theorem zcells_24 : zcells Go.Proofs.Tryz.prog 24 = some [.d (.nilsl)] := by kernel_rfl
@[simp] theorem tbytes_24 : tbytes Go.Proofs.Tryz.prog 24 = some 24 := by kernel_rfl
@[simp] theorem concrete_24 : Go.Proofs.Tryz.prog.concrete 24 = true := by kernel_rfl
@[simp] theorem eqGuard_24 : Go.Proofs.Tryz.prog.eqGuardType Go.Proofs.Tryz.prog.depth 24 = false := by kernel_rfl
@[simp] theorem szT_25 : szT Go.Proofs.Tryz.prog 25 = 1 := by kernel_rfl
@[simp] theorem infoS_25 : (Go.Proofs.Tryz.prog.info? 25).isSome = true := by kernel_rfl
@[simp] theorem aggT_25 : aggT Go.Proofs.Tryz.prog 25 = some false := by kernel_rfl
@[simp] theorem slT_25 : slT Go.Proofs.Tryz.prog 25 = some (69, 2) := by kernel_rfl
@[simp] theorem strT_25 : strT Go.Proofs.Tryz.prog 25 = false := by kernel_rfl
@[simp] theorem zcells_25 : zcells Go.Proofs.Tryz.prog 25 = some [.d (.nilsl)] := by kernel_rfl
@[simp] theorem tbytes_25 : tbytes Go.Proofs.Tryz.prog 25 = some 24 := by kernel_rfl
@[simp] theorem concrete_25 : Go.Proofs.Tryz.prog.concrete 25 = true := by kernel_rfl
@[simp] theorem eqGuard_25 : Go.Proofs.Tryz.prog.eqGuardType Go.Proofs.Tryz.prog.depth 25 = false := by kernel_rfl
@[simp] theorem szT_27 : szT Go.Proofs.Tryz.prog 27 = 8 := by kernel_rfl
@[simp] theorem infoS_27 : (Go.Proofs.Tryz.prog.info? 27).isSome = true := by kernel_rfl
@[simp] theorem aggT_27 : aggT Go.Proofs.Tryz.prog 27 = some true := by kernel_rfl
@[simp] theorem fldT_27_0 : fldT Go.Proofs.Tryz.prog 27 0 = some (0, 22) := by kernel_rfl
@[simp] theorem fldT_27_1 : fldT Go.Proofs.Tryz.prog 27 1 = some (1, 3) := by kernel_rfl
@[simp] theorem fldT_27_2 : fldT Go.Proofs.Tryz.prog 27 2 = some (2, 23) := by kernel_rfl
@[simp] theorem fldT_27_3 : fldT Go.Proofs.Tryz.prog 27 3 = some (3, 24) := by kernel_rfl
@[simp] theorem fldT_27_4 : fldT Go.Proofs.Tryz.prog 27 4 = some (4, 3) := by kernel_rfl
@[simp] theorem fldT_27_5 : fldT Go.Proofs.Tryz.prog 27 5 = some (5, 3) := by kernel_rfl
@[simp] theorem fldT_27_6 : fldT Go.Proofs.Tryz.prog 27 6 = some (6, 25) := by kernel_rfl
@[simp] theorem fldT_27_7 : fldT Go.Proofs.Tryz.prog 27 7 = some (7, 3) := by kernel_rfl
@[simp] theorem strT_27 : strT Go.Proofs.Tryz.prog 27 = false := by kernel_rfl
@[simp] theorem zcells_27 : zcells Go.Proofs.Tryz.prog 27 = some [.d (.nilsl), .d (.int .i64 0), .d (.nilsl), .d (.nilsl), .d (.int .i64 0), .d (.int .i64 0), .d (.nilsl), .d (.int .i64 0)] := by kernel_rfl
@[simp] theorem tbytes_27 : tbytes Go.Proofs.Tryz.prog 27 = some 128 := by kernel_rfl
@[simp] theorem concrete_27 : Go.Proofs.Tryz.prog.concrete 27 = true := by kernel_rfl
@[simp] theorem eqGuard_27 : Go.Proofs.Tryz.prog.eqGuardType Go.Proofs.Tryz.prog.depth 27 = false := by kernel_rfl
@[simp] theorem szT_37 : szT Go.Proofs.Tryz.prog 37 = 1 := by kernel_rfl
@[simp] theorem infoS_37 : (Go.Proofs.Tryz.prog.info? 37).isSome = true := by kernel_rfl
@[simp] theorem aggT_37 : aggT Go.Proofs.Tryz.prog 37 = some false := by kernel_rfl
@[simp] theorem strT_37 : strT Go.Proofs.Tryz.prog 37 = false := by kernel_rfl
@[simp] theorem zcells_37 : zcells Go.Proofs.Tryz.prog 37 = some [.d (.nilFunc)] := by kernel_rfl
@[simp] theorem tbytes_37 : tbytes Go.Proofs.Tryz.prog 37 = some 8 := by kernel_rfl
@[simp] theorem concrete_37 : Go.Proofs.Tryz.prog.concrete 37 = true := by kernel_rfl
@[simp] theorem eqGuard_37 : Go.Proofs.Tryz.prog.eqGuardType Go.Proofs.Tryz.prog.depth 37 = false := by kernel_rfl
@[simp] theorem szT_53 : szT Go.Proofs.Tryz.prog 53 = 1 := by kernel_rfl
@[simp] theorem infoS_53 : (Go.Proofs.Tryz.prog.info? 53).isSome = true := by kernel_rfl
@[simp] theorem aggT_53 : aggT Go.Proofs.Tryz.prog 53 = some false := by kernel_rfl
@[simp] theorem strT_53 : strT Go.Proofs.Tryz.prog 53 = true := by kernel_rfl
@[simp] theorem zcells_53 : zcells Go.Proofs.Tryz.prog 53 = some [.d (.str [])] := by kernel_rfl
@[simp] theorem tbytes_53 : tbytes Go.Proofs.Tryz.prog 53 = some 16 := by kernel_rfl
@[simp] theorem concrete_53 : Go.Proofs.Tryz.prog.concrete 53 = true := by kernel_rfl
@[simp] theorem eqGuard_53 : Go.Proofs.Tryz.prog.eqGuardType Go.Proofs.Tryz.prog.depth 53 = false := by kernel_rfl
@[simp] theorem szT_55 : szT Go.Proofs.Tryz.prog 55 = 7 := by kernel_rfl
@[simp] theorem infoS_55 : (Go.Proofs.Tryz.prog.info? 55).isSome = true := by kernel_rfl
@[simp] theorem aggT_55 : aggT Go.Proofs.Tryz.prog 55 = some true := by kernel_rfl
@[simp] theorem fldT_55_0 : fldT Go.Proofs.Tryz.prog 55 0 = some (0, 3) := by kernel_rfl
@[simp] theorem fldT_55_1 : fldT Go.Proofs.Tryz.prog 55 1 = some (1, 3) := by kernel_rfl
@[simp] theorem fldT_55_2 : fldT Go.Proofs.Tryz.prog 55 2 = some (2, 3) := by kernel_rfl
@[simp] theorem fldT_55_3 : fldT Go.Proofs.Tryz.prog 55 3 = some (3, 3) := by kernel_rfl
@[simp] theorem fldT_55_4 : fldT Go.Proofs.Tryz.prog 55 4 = some (4, 3) := by kernel_rfl
@[simp] theorem fldT_55_5 : fldT Go.Proofs.Tryz.prog 55 5 = some (5, 3) := by kernel_rfl
@[simp] theorem fldT_55_6 : fldT Go.Proofs.Tryz.prog 55 6 = some (6, 53) := by kernel_rfl
@[simp] theorem strT_55 : strT Go.Proofs.Tryz.prog 55 = false := by kernel_rfl
@[simp] theorem zcells_55 : zcells Go.Proofs.Tryz.prog 55 = some [.d (.int .i64 0), .d (.int .i64 0), .d (.int .i64 0), .d (.int .i64 0), .d (.int .i64 0), .d (.int .i64 0), .d (.str [])] := by kernel_rfl
@[simp] theorem tbytes_55 : tbytes Go.Proofs.Tryz.prog 55 = some 64 := by kernel_rfl
@[simp] theorem concrete_55 : Go.Proofs.Tryz.prog.concrete 55 = true := by kernel_rfl
@[simp] theorem eqGuard_55 : Go.Proofs.Tryz.prog.eqGuardType Go.Proofs.Tryz.prog.depth 55 = false := by kernel_rfl
@[simp] theorem szT_67 : szT Go.Proofs.Tryz.prog 67 = 3 := by kernel_rfl
@[simp] theorem infoS_67 : (Go.Proofs.Tryz.prog.info? 67).isSome = true := by kernel_rfl
@[simp] theorem aggT_67 : aggT Go.Proofs.Tryz.prog 67 = some true := by kernel_rfl
@[simp] theorem fldT_67_0 : fldT Go.Proofs.Tryz.prog 67 0 = some (0, 3) := by kernel_rfl
@[simp] theorem fldT_67_1 : fldT Go.Proofs.Tryz.prog 67 1 = some (1, 53) := by kernel_rfl
@[simp] theorem fldT_67_2 : fldT Go.Proofs.Tryz.prog 67 2 = some (2, 53) := by kernel_rfl
@[simp] theorem strT_67 : strT Go.Proofs.Tryz.prog 67 = false := by kernel_rfl
@[simp] theorem zcells_67 : zcells Go.Proofs.Tryz.prog 67 = some [.d (.int .i64 0), .d (.str []), .d (.str [])] := by kernel_rfl
@[simp] theorem tbytes_67 : tbytes Go.Proofs.Tryz.prog 67 = some 40 := by kernel_rfl
@[simp] theorem concrete_67 : Go.Proofs.Tryz.prog.concrete 67 = true := by kernel_rfl
@[simp] theorem eqGuard_67 : Go.Proofs.Tryz.prog.eqGuardType Go.Proofs.Tryz.prog.depth 67 = false := by kernel_rfl
@[simp] theorem szT_100 : szT Go.Proofs.Tryz.prog 100 = 2 := by kernel_rfl
@[simp] theorem infoS_100 : (Go.Proofs.Tryz.prog.info? 100).isSome = true := by kernel_rfl
@[simp] theorem aggT_100 : aggT Go.Proofs.Tryz.prog 100 = some true := by kernel_rfl
@[simp] theorem fldT_100_0 : fldT Go.Proofs.Tryz.prog 100 0 = some (0, 5) := by kernel_rfl
@[simp] theorem fldT_100_1 : fldT Go.Proofs.Tryz.prog 100 1 = some (1, 9) := by kernel_rfl
@[simp] theorem strT_100 : strT Go.Proofs.Tryz.prog 100 = false := by kernel_rfl
@[simp] theorem zcells_100 : zcells Go.Proofs.Tryz.prog 100 = some [.d (.int .u8 0), .d (.str [])] := by kernel_rfl
@[simp] theorem tbytes_100 : tbytes Go.Proofs.Tryz.prog 100 = some 24 := by kernel_rfl
@[simp] theorem concrete_100 : Go.Proofs.Tryz.prog.concrete 100 = true := by kernel_rfl
@[simp] theorem eqGuard_100 : Go.Proofs.Tryz.prog.eqGuardType Go.Proofs.Tryz.prog.depth 100 = false := by kernel_rfl
@[simp] theorem szT_101 : szT Go.Proofs.Tryz.prog 101 = 2 := by kernel_rfl
@[simp] theorem infoS_101 : (Go.Proofs.Tryz.prog.info? 101).isSome = true := by kernel_rfl
@[simp] theorem aggT_101 : aggT Go.Proofs.Tryz.prog 101 = some true := by kernel_rfl
@[simp] theorem fldT_101_0 : fldT Go.Proofs.Tryz.prog 101 0 = some (0, 5) := by kernel_rfl
@[simp] theorem fldT_101_1 : fldT Go.Proofs.Tryz.prog 101 1 = some (1, 9) := by kernel_rfl
@[simp] theorem strT_101 : strT Go.Proofs.Tryz.prog 101 = false := by kernel_rfl
@[simp] theorem zcells_101 : zcells Go.Proofs.Tryz.prog 101 = some [.d (.int .u8 0), .d (.str [])] := by kernel_rfl
@[simp] theorem tbytes_101 : tbytes Go.Proofs.Tryz.prog 101 = some 24 := by kernel_rfl
@[simp] theorem concrete_101 : Go.Proofs.Tryz.prog.concrete 101 = true := by kernel_rfl
@[simp] theorem eqGuard_101 : Go.Proofs.Tryz.prog.eqGuardType Go.Proofs.Tryz.prog.depth 101 = false := by kernel_rfl
@[simp] theorem szT_102 : szT Go.Proofs.Tryz.prog 102 = 3 := by kernel_rfl
@[simp] theorem infoS_102 : (Go.Proofs.Tryz.prog.info? 102).isSome = true := by kernel_rfl
@[simp] theorem aggT_102 : aggT Go.Proofs.Tryz.prog 102 = some true := by kernel_rfl
@[simp] theorem fldT_102_0 : fldT Go.Proofs.Tryz.prog 102 0 = some (0, 4) := by kernel_rfl
@[simp] theorem fldT_102_1 : fldT Go.Proofs.Tryz.prog 102 1 = some (1, 101) := by kernel_rfl
@[simp] theorem strT_102 : strT Go.Proofs.Tryz.prog 102 = false := by kernel_rfl
@[simp] theorem zcells_102 : zcells Go.Proofs.Tryz.prog 102 = some [.d (.bool false), .d (.int .u8 0), .d (.str [])] := by kernel_rfl
@[simp] theorem tbytes_102 : tbytes Go.Proofs.Tryz.prog 102 = some 32 := by kernel_rfl
@[simp] theorem concrete_102 : Go.Proofs.Tryz.prog.concrete 102 = true := by kernel_rfl
@[simp] theorem eqGuard_102 : Go.Proofs.Tryz.prog.eqGuardType Go.Proofs.Tryz.prog.depth 102 = false := by kernel_rfl
@[simp] theorem szT_103 : szT Go.Proofs.Tryz.prog 103 = 3 := by kernel_rfl
@[simp] theorem infoS_103 : (Go.Proofs.Tryz.prog.info? 103).isSome = true := by kernel_rfl
@[simp] theorem aggT_103 : aggT Go.Proofs.Tryz.prog 103 = some true := by kernel_rfl
@[simp] theorem fldT_103_0 : fldT Go.Proofs.Tryz.prog 103 0 = some (0, 4) := by kernel_rfl
@[simp] theorem fldT_103_1 : fldT Go.Proofs.Tryz.prog 103 1 = some (1, 101) := by kernel_rfl
@[simp] theorem strT_103 : strT Go.Proofs.Tryz.prog 103 = false := by kernel_rfl
@[simp] theorem zcells_103 : zcells Go.Proofs.Tryz.prog 103 = some [.d (.bool false), .d (.int .u8 0), .d (.str [])] := by kernel_rfl
@[simp] theorem tbytes_103 : tbytes Go.Proofs.Tryz.prog 103 = some 32 := by kernel_rfl
@[simp] theorem concrete_103 : Go.Proofs.Tryz.prog.concrete 103 = true := by kernel_rfl
@[simp] theorem eqGuard_103 : Go.Proofs.Tryz.prog.eqGuardType Go.Proofs.Tryz.prog.depth 103 = false := by kernel_rfl
@[simp] theorem szT_221 : szT Go.Proofs.Tryz.prog 221 = 1 := by kernel_rfl
@[simp] theorem infoS_221 : (Go.Proofs.Tryz.prog.info? 221).isSome = true := by kernel_rfl
@[simp] theorem aggT_221 : aggT Go.Proofs.Tryz.prog 221 = some false := by kernel_rfl
@[simp] theorem slT_221 : slT Go.Proofs.Tryz.prog 221 = some (322, 1) := by kernel_rfl
@[simp] theorem strT_221 : strT Go.Proofs.Tryz.prog 221 = false := by kernel_rfl
@[simp] theorem zcells_221 : zcells Go.Proofs.Tryz.prog 221 = some [.d (.nilsl)] := by kernel_rfl
@[simp] theorem tbytes_221 : tbytes Go.Proofs.Tryz.prog 221 = some 24 := by kernel_rfl
@[simp] theorem concrete_221 : Go.Proofs.Tryz.prog.concrete 221 = true := by kernel_rfl
@[simp] theorem eqGuard_221 : Go.Proofs.Tryz.prog.eqGuardType Go.Proofs.Tryz.prog.depth 221 = false := by kernel_rfl
@[simp] theorem szT_222 : szT Go.Proofs.Tryz.prog 222 = 1 := by kernel_rfl
@[simp] theorem infoS_222 : (Go.Proofs.Tryz.prog.info? 222).isSome = true := by kernel_rfl
@[simp] theorem aggT_222 : aggT Go.Proofs.Tryz.prog 222 = some false := by kernel_rfl
@[simp] theorem slT_222 : slT Go.Proofs.Tryz.prog 222 = some (322, 1) := by kernel_rfl
@[simp] theorem strT_222 : strT Go.Proofs.Tryz.prog 222 = false := by kernel_rfl
@[simp] theorem zcells_222 : zcells Go.Proofs.Tryz.prog 222 = some [.d (.nilsl)] := by kernel_rfl
@[simp] theorem tbytes_222 : tbytes Go.Proofs.Tryz.prog 222 = some 24 := by kernel_rfl
@[simp] theorem concrete_222 : Go.Proofs.Tryz.prog.concrete 222 = true := by kernel_rfl
@[simp] theorem eqGuard_222 : Go.Proofs.Tryz.prog.eqGuardType Go.Proofs.Tryz.prog.depth 222 = false := by kernel_rfl
@[simp] theorem szT_227 : szT Go.Proofs.Tryz.prog 227 = 1 := by kernel_rfl
@[simp] theorem infoS_227 : (Go.Proofs.Tryz.prog.info? 227).isSome = true := by kernel_rfl
@[simp] theorem aggT_227 : aggT Go.Proofs.Tryz.prog 227 = some false := by kernel_rfl
@[simp] theorem strT_227 : strT Go.Proofs.Tryz.prog 227 = false := by kernel_rfl
@[simp] theorem zcells_227 : zcells Go.Proofs.Tryz.prog 227 = some [.d (.nilFunc)] := by kernel_rfl
@[simp] theorem tbytes_227 : tbytes Go.Proofs.Tryz.prog 227 = some 8 := by kernel_rfl
@[simp] theorem concrete_227 : Go.Proofs.Tryz.prog.concrete 227 = true := by kernel_rfl
@[simp] theorem eqGuard_227 : Go.Proofs.Tryz.prog.eqGuardType Go.Proofs.Tryz.prog.depth 227 = false := by kernel_rfl
@[simp] theorem szT_238 : szT Go.Proofs.Tryz.prog 238 = 1 := by kernel_rfl
@[simp] theorem infoS_238 : (Go.Proofs.Tryz.prog.info? 238).isSome = true := by kernel_rfl
@[simp] theorem aggT_238 : aggT Go.Proofs.Tryz.prog 238 = some false := by kernel_rfl
@[simp] theorem strT_238 : strT Go.Proofs.Tryz.prog 238 = false := by kernel_rfl
@[simp] theorem tbytes_238 : tbytes Go.Proofs.Tryz.prog 238 = some 0 := by kernel_rfl
@[simp] theorem concrete_238 : Go.Proofs.Tryz.prog.concrete 238 = true := by kernel_rfl
@[simp] theorem eqGuard_238 : Go.Proofs.Tryz.prog.eqGuardType Go.Proofs.Tryz.prog.depth 238 = false := by kernel_rfl
@[simp] theorem szT_271 : szT Go.Proofs.Tryz.prog 271 = 1 := by kernel_rfl
@[simp] theorem infoS_271 : (Go.Proofs.Tryz.prog.info? 271).isSome = true := by kernel_rfl
@[simp] theorem aggT_271 : aggT Go.Proofs.Tryz.prog 271 = some false := by kernel_rfl
@[simp] theorem strT_271 : strT Go.Proofs.Tryz.prog 271 = false := by kernel_rfl
@[simp] theorem intT_271 : intT Go.Proofs.Tryz.prog 271 = some .u64 := by kernel_rfl
@[simp] theorem zcells_271 : zcells Go.Proofs.Tryz.prog 271 = some [.d (.int .u64 0)] := by kernel_rfl
@[simp] theorem tbytes_271 : tbytes Go.Proofs.Tryz.prog 271 = some 8 := by kernel_rfl
@[simp] theorem concrete_271 : Go.Proofs.Tryz.prog.concrete 271 = true := by kernel_rfl
@[simp] theorem eqGuard_271 : Go.Proofs.Tryz.prog.eqGuardType Go.Proofs.Tryz.prog.depth 271 = false := by kernel_rfl
@[simp] theorem szT_280 : szT Go.Proofs.Tryz.prog 280 = 1 := by kernel_rfl
@[simp] theorem infoS_280 : (Go.Proofs.Tryz.prog.info? 280).isSome = true := by kernel_rfl
@[simp] theorem aggT_280 : aggT Go.Proofs.Tryz.prog 280 = some false := by kernel_rfl
@[simp] theorem strT_280 : strT Go.Proofs.Tryz.prog 280 = false := by kernel_rfl
@[simp] theorem zcells_280 : zcells Go.Proofs.Tryz.prog 280 = some [.d (.nilFunc)] := by kernel_rfl
@[simp] theorem tbytes_280 : tbytes Go.Proofs.Tryz.prog 280 = some 8 := by kernel_rfl
@[simp] theorem concrete_280 : Go.Proofs.Tryz.prog.concrete 280 = true := by kernel_rfl
@[simp] theorem eqGuard_280 : Go.Proofs.Tryz.prog.eqGuardType Go.Proofs.Tryz.prog.depth 280 = false := by kernel_rfl
@[simp] theorem szT_281 : szT Go.Proofs.Tryz.prog 281 = 4 := by kernel_rfl
@[simp] theorem infoS_281 : (Go.Proofs.Tryz.prog.info? 281).isSome = true := by kernel_rfl
@[simp] theorem aggT_281 : aggT Go.Proofs.Tryz.prog 281 = some true := by kernel_rfl
@[simp] theorem fldT_281_0 : fldT Go.Proofs.Tryz.prog 281 0 = some (0, 81) := by kernel_rfl
@[simp] theorem fldT_281_1 : fldT Go.Proofs.Tryz.prog 281 1 = some (2, 3) := by kernel_rfl
@[simp] theorem fldT_281_2 : fldT Go.Proofs.Tryz.prog 281 2 = some (3, 3) := by kernel_rfl
@[simp] theorem strT_281 : strT Go.Proofs.Tryz.prog 281 = false := by kernel_rfl
@[simp] theorem zcells_281 : zcells Go.Proofs.Tryz.prog 281 = some [.d (.int .i64 0), .d (.int .i64 0), .d (.int .i64 0), .d (.int .i64 0)] := by kernel_rfl
@[simp] theorem tbytes_281 : tbytes Go.Proofs.Tryz.prog 281 = some 32 := by kernel_rfl
@[simp] theorem concrete_281 : Go.Proofs.Tryz.prog.concrete 281 = true := by kernel_rfl
@[simp] theorem eqGuard_281 : Go.Proofs.Tryz.prog.eqGuardType Go.Proofs.Tryz.prog.depth 281 = false := by kernel_rfl
@[simp] theorem szT_322 : szT Go.Proofs.Tryz.prog 322 = 1 := by kernel_rfl
@[simp] theorem infoS_322 : (Go.Proofs.Tryz.prog.info? 322).isSome = true := by kernel_rfl
@[simp] theorem aggT_322 : aggT Go.Proofs.Tryz.prog 322 = some false := by kernel_rfl
@[simp] theorem strT_322 : strT Go.Proofs.Tryz.prog 322 = false := by kernel_rfl
@[simp] theorem intT_322 : intT Go.Proofs.Tryz.prog 322 = some .u32 := by kernel_rfl
@[simp] theorem zcells_322 : zcells Go.Proofs.Tryz.prog 322 = some [.d (.int .u32 0)] := by kernel_rfl
@[simp] theorem tbytes_322 : tbytes Go.Proofs.Tryz.prog 322 = some 4 := by kernel_rfl
@[simp] theorem concrete_322 : Go.Proofs.Tryz.prog.concrete 322 = true := by kernel_rfl
@[simp] theorem eqGuard_322 : Go.Proofs.Tryz.prog.eqGuardType Go.Proofs.Tryz.prog.depth 322 = false := by kernel_rfl
@[simp] theorem szT_331 : szT Go.Proofs.Tryz.prog 331 = 1 := by kernel_rfl
@[simp] theorem infoS_331 : (Go.Proofs.Tryz.prog.info? 331).isSome = true := by kernel_rfl
@[simp] theorem aggT_331 : aggT Go.Proofs.Tryz.prog 331 = some false := by kernel_rfl
@[simp] theorem strT_331 : strT Go.Proofs.Tryz.prog 331 = false := by kernel_rfl
@[simp] theorem zcells_331 : zcells Go.Proofs.Tryz.prog 331 = some [.d (.nilFunc)] := by kernel_rfl
@[simp] theorem tbytes_331 : tbytes Go.Proofs.Tryz.prog 331 = some 8 := by kernel_rfl
@[simp] theorem concrete_331 : Go.Proofs.Tryz.prog.concrete 331 = true := by kernel_rfl
@[simp] theorem eqGuard_331 : Go.Proofs.Tryz.prog.eqGuardType Go.Proofs.Tryz.prog.depth 331 = false := by kernel_rfl
@[simp] theorem isFn_16 : isFn Go.Proofs.Tryz.prog 16 = true := by kernel_rfl
@[simp] theorem isFn_17 : isFn Go.Proofs.Tryz.prog 17 = true := by kernel_rfl
@[simp] theorem isFn_20 : isFn Go.Proofs.Tryz.prog 20 = true := by kernel_rfl
@[simp] theorem isFn_37 : isFn Go.Proofs.Tryz.prog 37 = true := by kernel_rfl
@[simp] theorem isFn_100 : isFn Go.Proofs.Tryz.prog 100 = true := by kernel_rfl
@[simp] theorem isFn_101 : isFn Go.Proofs.Tryz.prog 101 = true := by kernel_rfl
@[simp] theorem isFn_102 : isFn Go.Proofs.Tryz.prog 102 = true := by kernel_rfl
@[simp] theorem isFn_103 : isFn Go.Proofs.Tryz.prog 103 = true := by kernel_rfl
@[simp] theorem isFn_227 : isFn Go.Proofs.Tryz.prog 227 = true := by kernel_rfl
@[simp] theorem isFn_238 : isFn Go.Proofs.Tryz.prog 238 = true := by kernel_rfl
@[simp] theorem isFn_280 : isFn Go.Proofs.Tryz.prog 280 = true := by kernel_rfl
@[simp] theorem isFn_281 : isFn Go.Proofs.Tryz.prog 281 = true := by kernel_rfl
@[simp] theorem isFn_331 : isFn Go.Proofs.Tryz.prog 331 = true := by kernel_rfl
theorem ntm_3 : (Go.Proofs.Tryz.f3).ntmps = 40 := by kernel_rfl
theorem ntm_5 : (Go.Proofs.Tryz.f5).ntmps = 31 := by kernel_rfl
theorem ntm_9 : (Go.Proofs.Tryz.f9).ntmps = 32 := by kernel_rfl
theorem ntm_16 : (Go.Proofs.Tryz.f16).ntmps = 70 := by kernel_rfl
theorem ntm_17 : (Go.Proofs.Tryz.f17).ntmps = 108 := by kernel_rfl
theorem ntm_20 : (Go.Proofs.Tryz.f20).ntmps = 141 := by kernel_rfl
theorem ntm_22 : (Go.Proofs.Tryz.f22).ntmps = 108 := by kernel_rfl
theorem ntm_23 : (Go.Proofs.Tryz.f23).ntmps = 137 := by kernel_rfl
theorem ntm_24 : (Go.Proofs.Tryz.f24).ntmps = 191 := by kernel_rfl
theorem ntm_25 : (Go.Proofs.Tryz.f25).ntmps = 189 := by kernel_rfl
theorem ntm_27 : (Go.Proofs.Tryz.f27).ntmps = 137 := by kernel_rfl
theorem ntm_37 : (Go.Proofs.Tryz.f37).ntmps = 59 := by kernel_rfl
theorem ntm_53 : (Go.Proofs.Tryz.f53).ntmps = 14 := by kernel_rfl
theorem ntm_55 : (Go.Proofs.Tryz.f55).ntmps = 42 := by kernel_rfl
theorem ntm_67 : (Go.Proofs.Tryz.f67).ntmps = 155 := by kernel_rfl
theorem ntm_100 : (Go.Proofs.Tryz.f100).ntmps = 26 := by kernel_rfl
theorem ntm_101 : (Go.Proofs.Tryz.f101).ntmps = 26 := by kernel_rfl
theorem ntm_102 : (Go.Proofs.Tryz.f102).ntmps = 26 := by kernel_rfl
theorem ntm_103 : (Go.Proofs.Tryz.f103).ntmps = 26 := by kernel_rfl
theorem ntm_221 : (Go.Proofs.Tryz.f221).ntmps = 2 := by kernel_rfl
theorem ntm_222 : (Go.Proofs.Tryz.f222).ntmps = 11 := by kernel_rfl
theorem ntm_227 : (Go.Proofs.Tryz.f227).ntmps = 10 := by kernel_rfl
theorem ntm_238 : (Go.Proofs.Tryz.f238).ntmps = 67 := by kernel_rfl
theorem ntm_271 : (Go.Proofs.Tryz.f271).ntmps = 1 := by kernel_rfl
theorem ntm_280 : (Go.Proofs.Tryz.f280).ntmps = 58 := by kernel_rfl
theorem ntm_281 : (Go.Proofs.Tryz.f281).ntmps = 5 := by kernel_rfl
theorem ntm_322 : (Go.Proofs.Tryz.f322).ntmps = 32 := by kernel_rfl
theorem ntm_331 : (Go.Proofs.Tryz.f331).ntmps = 21 := by kernel_rfl
end Go.Am.Ty
