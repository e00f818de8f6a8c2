/- Helpers: an abstract machine for Go functions, and walks of functions of the program. -/
import Derived.Test.YtfkfimmphlpllaaGreatDoorBn04
import Derived.Test.YtfkfimmphlpllaaGreatDoorProg

set_option linter.all false

namespace Go.Am.Ty
@[simp] theorem szT_2:szT Go.Proofs.Tryz.prog 2=1:=by kernel_rfl
@[simp] theorem infoS_2:(Go.Proofs.Tryz.prog.info? 2).isSome=true:=by kernel_rfl
@[simp] theorem aggT_2:aggT Go.Proofs.Tryz.prog 2=some false:=by kernel_rfl
@[simp] theorem strT_2:strT Go.Proofs.Tryz.prog 2=false:=by kernel_rfl
@[simp] theorem intT_2:intT Go.Proofs.Tryz.prog 2=some .i64:=by kernel_rfl
@[simp] theorem zcells_2:zcells Go.Proofs.Tryz.prog 2=some [.d (.int .i64 0)]:=by kernel_rfl
@[simp] theorem tbytes_2:tbytes Go.Proofs.Tryz.prog 2=some 8:=by kernel_rfl
@[simp] theorem concrete_2:Go.Proofs.Tryz.prog.concrete 2=true:=by kernel_rfl
@[simp] theorem eqGuard_2:Go.Proofs.Tryz.prog.eqGuardType Go.Proofs.Tryz.prog.depth 2=false:=by kernel_rfl
@[simp] theorem szT_3:szT Go.Proofs.Tryz.prog 3=1:=by kernel_rfl
@[simp] theorem infoS_3:(Go.Proofs.Tryz.prog.info? 3).isSome=true:=by kernel_rfl
@[simp] theorem aggT_3:aggT Go.Proofs.Tryz.prog 3=some false:=by kernel_rfl
@[simp] theorem strT_3:strT Go.Proofs.Tryz.prog 3=false:=by kernel_rfl
@[simp] theorem intT_3:intT Go.Proofs.Tryz.prog 3=some .i64:=by kernel_rfl
@[simp] theorem zcells_3:zcells Go.Proofs.Tryz.prog 3=some [.d (.int .i64 0)]:=by kernel_rfl
@[simp] theorem tbytes_3:tbytes Go.Proofs.Tryz.prog 3=some 8:=by kernel_rfl
@[simp] theorem concrete_3:Go.Proofs.Tryz.prog.concrete 3=true:=by kernel_rfl
@[simp] theorem eqGuard_3:Go.Proofs.Tryz.prog.eqGuardType Go.Proofs.Tryz.prog.depth 3=false:=by kernel_rfl
@[simp] theorem szT_4:szT Go.Proofs.Tryz.prog 4=1:=by kernel_rfl
@[simp] theorem infoS_4:(Go.Proofs.Tryz.prog.info? 4).isSome=true:=by kernel_rfl
@[simp] theorem aggT_4:aggT Go.Proofs.Tryz.prog 4=some false:=by kernel_rfl
@[simp] theorem strT_4:strT Go.Proofs.Tryz.prog 4=false:=by kernel_rfl
@[simp] theorem zcells_4:zcells Go.Proofs.Tryz.prog 4=some [.d (.bool false)]:=by kernel_rfl
@[simp] theorem tbytes_4:tbytes Go.Proofs.Tryz.prog 4=some 1:=by kernel_rfl
@[simp] theorem concrete_4:Go.Proofs.Tryz.prog.concrete 4=true:=by kernel_rfl
@[simp] theorem eqGuard_4:Go.Proofs.Tryz.prog.eqGuardType Go.Proofs.Tryz.prog.depth 4=false:=by kernel_rfl
@[simp] theorem szT_5:szT Go.Proofs.Tryz.prog 5=1:=by kernel_rfl
@[simp] theorem infoS_5:(Go.Proofs.Tryz.prog.info? 5).isSome=true:=by kernel_rfl
@[simp] theorem aggT_5:aggT Go.Proofs.Tryz.prog 5=some false:=by kernel_rfl
@[simp] theorem strT_5:strT Go.Proofs.Tryz.prog 5=false:=by kernel_rfl
@[simp] theorem intT_5:intT Go.Proofs.Tryz.prog 5=some .u8:=by kernel_rfl
@[simp] theorem zcells_5:zcells Go.Proofs.Tryz.prog 5=some [.d (.int .u8 0)]:=by kernel_rfl
@[simp] theorem tbytes_5:tbytes Go.Proofs.Tryz.prog 5=some 1:=by kernel_rfl
@[simp] theorem concrete_5:Go.Proofs.Tryz.prog.concrete 5=true:=by kernel_rfl
@[simp] theorem eqGuard_5:Go.Proofs.Tryz.prog.eqGuardType Go.Proofs.Tryz.prog.depth 5=false:=by kernel_rfl
@[simp] theorem szT_9:szT Go.Proofs.Tryz.prog 9=1:=by kernel_rfl
@[simp] theorem infoS_9:(Go.Proofs.Tryz.prog.info? 9).isSome=true:=by kernel_rfl
@[simp] theorem aggT_9:aggT Go.Proofs.Tryz.prog 9=some false:=by kernel_rfl
@[simp] theorem strT_9:strT Go.Proofs.Tryz.prog 9=true:=by kernel_rfl
@[simp] theorem zcells_9:zcells Go.Proofs.Tryz.prog 9=some [.d (.str [])]:=by kernel_rfl
@[simp] theorem tbytes_9:tbytes Go.Proofs.Tryz.prog 9=some 16:=by kernel_rfl
@[simp] theorem concrete_9:Go.Proofs.Tryz.prog.concrete 9=true:=by kernel_rfl
@[simp] theorem eqGuard_9:Go.Proofs.Tryz.prog.eqGuardType Go.Proofs.Tryz.prog.depth 9=false:=by kernel_rfl
@[simp] theorem szT_22:szT Go.Proofs.Tryz.prog 22=1:=by kernel_rfl
@[simp] theorem infoS_22:(Go.Proofs.Tryz.prog.info? 22).isSome=true:=by kernel_rfl
@[simp] theorem aggT_22:aggT Go.Proofs.Tryz.prog 22=some false:=by kernel_rfl
@[simp] theorem slT_22:slT Go.Proofs.Tryz.prog 22=some (81,2):=by kernel_rfl
@[simp] theorem strT_22:strT Go.Proofs.Tryz.prog 22=false:=by kernel_rfl
@[simp] theorem zcells_22:zcells Go.Proofs.Tryz.prog 22=some [.d (.nilsl)]:=by kernel_rfl
@[simp] theorem tbytes_22:tbytes Go.Proofs.Tryz.prog 22=some 24:=by kernel_rfl
@[simp] theorem concrete_22:Go.Proofs.Tryz.prog.concrete 22=true:=by kernel_rfl
@[simp] theorem eqGuard_22:Go.Proofs.Tryz.prog.eqGuardType Go.Proofs.Tryz.prog.depth 22=false:=by kernel_rfl
@[simp] theorem szT_23:szT Go.Proofs.Tryz.prog 23=1:=by kernel_rfl
@[simp] theorem infoS_23:(Go.Proofs.Tryz.prog.info? 23).isSome=true:=by kernel_rfl
@[simp] theorem aggT_23:aggT Go.Proofs.Tryz.prog 23=some false:=by kernel_rfl
@[simp] theorem slT_23:slT Go.Proofs.Tryz.prog 23=some (67,3):=by kernel_rfl
@[simp] theorem strT_23:strT Go.Proofs.Tryz.prog 23=false:=by kernel_rfl
@[simp] theorem zcells_23:zcells Go.Proofs.Tryz.prog 23=some [.d (.nilsl)]:=by kernel_rfl
@[simp] theorem tbytes_23:tbytes Go.Proofs.Tryz.prog 23=some 24:=by kernel_rfl
@[simp] theorem concrete_23:Go.Proofs.Tryz.prog.concrete 23=true:=by kernel_rfl
@[simp] theorem eqGuard_23:Go.Proofs.Tryz.prog.eqGuardType Go.Proofs.Tryz.prog.depth 23=false:=by kernel_rfl
@[simp] theorem szT_24:szT Go.Proofs.Tryz.prog 24=1:=by kernel_rfl
@[simp] theorem infoS_24:(Go.Proofs.Tryz.prog.info? 24).isSome=true:=by kernel_rfl
@[simp] theorem aggT_24:aggT Go.Proofs.Tryz.prog 24=some false:=by kernel_rfl
@[simp] theorem slT_24:slT Go.Proofs.Tryz.prog 24=some (55,7):=by kernel_rfl
@[simp] theorem strT_24:strT Go.Proofs.Tryz.prog 24=false:=by kernel_rfl
@[simp] theorem zcells_24:zcells Go.Proofs.Tryz.prog 24=some [.d (.nilsl)]:=by kernel_rfl
@[simp] theorem tbytes_24:tbytes Go.Proofs.Tryz.prog 24=some 24:=by kernel_rfl
@[simp] theorem concrete_24:Go.Proofs.Tryz.prog.concrete 24=true:=by kernel_rfl
@[simp] theorem eqGuard_24:Go.Proofs.Tryz.prog.eqGuardType Go.Proofs.Tryz.prog.depth 24=false:=by kernel_rfl
@[simp] theorem szT_25:szT Go.Proofs.Tryz.prog 25=1:=by kernel_rfl
@[simp] theorem infoS_25:(Go.Proofs.Tryz.prog.info? 25).isSome=true:=by kernel_rfl
@[simp] theorem aggT_25:aggT Go.Proofs.Tryz.prog 25=some false:=by kernel_rfl
@[simp] theorem slT_25:slT Go.Proofs.Tryz.prog 25=some (69,2):=by kernel_rfl
@[simp] theorem strT_25:strT Go.Proofs.Tryz.prog 25=false:=by kernel_rfl
@[simp] theorem zcells_25:zcells Go.Proofs.Tryz.prog 25=some [.d (.nilsl)]:=by kernel_rfl
@[simp] theorem tbytes_25:tbytes Go.Proofs.Tryz.prog 25=some 24:=by kernel_rfl
@[simp] theorem concrete_25:Go.Proofs.Tryz.prog.concrete 25=true:=by kernel_rfl
@[simp] theorem eqGuard_25:Go.Proofs.Tryz.prog.eqGuardType Go.Proofs.Tryz.prog.depth 25=false:=by kernel_rfl
@[simp] theorem szT_27:szT Go.Proofs.Tryz.prog 27=8:=by kernel_rfl
@[simp] theorem infoS_27:(Go.Proofs.Tryz.prog.info? 27).isSome=true:=by kernel_rfl
@[simp] theorem aggT_27:aggT Go.Proofs.Tryz.prog 27=some true:=by kernel_rfl
@[simp] theorem fldT_27_0:fldT Go.Proofs.Tryz.prog 27 0=some (0,22):=by kernel_rfl
@[simp] theorem fldT_27_1:fldT Go.Proofs.Tryz.prog 27 1=some (1,3):=by kernel_rfl
@[simp] theorem fldT_27_2:fldT Go.Proofs.Tryz.prog 27 2=some (2,23):=by kernel_rfl
@[simp] theorem fldT_27_3:fldT Go.Proofs.Tryz.prog 27 3=some (3,24):=by kernel_rfl
@[simp] theorem fldT_27_4:fldT Go.Proofs.Tryz.prog 27 4=some (4,3):=by kernel_rfl
@[simp] theorem fldT_27_5:fldT Go.Proofs.Tryz.prog 27 5=some (5,3):=by kernel_rfl
@[simp] theorem fldT_27_6:fldT Go.Proofs.Tryz.prog 27 6=some (6,25):=by kernel_rfl
@[simp] theorem fldT_27_7:fldT Go.Proofs.Tryz.prog 27 7=some (7,3):=by kernel_rfl
@[simp] theorem strT_27:strT Go.Proofs.Tryz.prog 27=false:=by kernel_rfl
@[simp] theorem zcells_27:zcells Go.Proofs.Tryz.prog 27=some [.d (.nilsl),.d (.int .i64 0),.d (.nilsl),.d (.nilsl),.d (.int .i64 0),.d (.int .i64 0),.d (.nilsl),.d (.int .i64 0)]:=by kernel_rfl
@[simp] theorem tbytes_27:tbytes Go.Proofs.Tryz.prog 27=some 128:=by kernel_rfl
@[simp] theorem concrete_27:Go.Proofs.Tryz.prog.concrete 27=true:=by kernel_rfl
@[simp] theorem eqGuard_27:Go.Proofs.Tryz.prog.eqGuardType Go.Proofs.Tryz.prog.depth 27=false:=by kernel_rfl
@[simp] theorem szT_30:szT Go.Proofs.Tryz.prog 30=1:=by kernel_rfl
@[simp] theorem infoS_30:(Go.Proofs.Tryz.prog.info? 30).isSome=true:=by kernel_rfl
@[simp] theorem aggT_30:aggT Go.Proofs.Tryz.prog 30=some false:=by kernel_rfl
@[simp] theorem slT_30:slT Go.Proofs.Tryz.prog 30=some (3,1):=by kernel_rfl
@[simp] theorem strT_30:strT Go.Proofs.Tryz.prog 30=false:=by kernel_rfl
@[simp] theorem zcells_30:zcells Go.Proofs.Tryz.prog 30=some [.d (.nilsl)]:=by kernel_rfl
@[simp] theorem tbytes_30:tbytes Go.Proofs.Tryz.prog 30=some 24:=by kernel_rfl
@[simp] theorem concrete_30:Go.Proofs.Tryz.prog.concrete 30=true:=by kernel_rfl
@[simp] theorem eqGuard_30:Go.Proofs.Tryz.prog.eqGuardType Go.Proofs.Tryz.prog.depth 30=false:=by kernel_rfl
@[simp] theorem szT_53:szT Go.Proofs.Tryz.prog 53=1:=by kernel_rfl
@[simp] theorem infoS_53:(Go.Proofs.Tryz.prog.info? 53).isSome=true:=by kernel_rfl
@[simp] theorem aggT_53:aggT Go.Proofs.Tryz.prog 53=some false:=by kernel_rfl
@[simp] theorem strT_53:strT Go.Proofs.Tryz.prog 53=true:=by kernel_rfl
@[simp] theorem zcells_53:zcells Go.Proofs.Tryz.prog 53=some [.d (.str [])]:=by kernel_rfl
@[simp] theorem tbytes_53:tbytes Go.Proofs.Tryz.prog 53=some 16:=by kernel_rfl
@[simp] theorem concrete_53:Go.Proofs.Tryz.prog.concrete 53=true:=by kernel_rfl
@[simp] theorem eqGuard_53:Go.Proofs.Tryz.prog.eqGuardType Go.Proofs.Tryz.prog.depth 53=false:=by kernel_rfl
@[simp] theorem szT_55:szT Go.Proofs.Tryz.prog 55=7:=by kernel_rfl
@[simp] theorem infoS_55:(Go.Proofs.Tryz.prog.info? 55).isSome=true:=by kernel_rfl
@[simp] theorem aggT_55:aggT Go.Proofs.Tryz.prog 55=some true:=by kernel_rfl
@[simp] theorem fldT_55_0:fldT Go.Proofs.Tryz.prog 55 0=some (0,3):=by kernel_rfl
@[simp] theorem fldT_55_1:fldT Go.Proofs.Tryz.prog 55 1=some (1,3):=by kernel_rfl
@[simp] theorem fldT_55_2:fldT Go.Proofs.Tryz.prog 55 2=some (2,3):=by kernel_rfl
@[simp] theorem fldT_55_3:fldT Go.Proofs.Tryz.prog 55 3=some (3,3):=by kernel_rfl
@[simp] theorem fldT_55_4:fldT Go.Proofs.Tryz.prog 55 4=some (4,3):=by kernel_rfl
@[simp] theorem fldT_55_5:fldT Go.Proofs.Tryz.prog 55 5=some (5,3):=by kernel_rfl
@[simp] theorem fldT_55_6:fldT Go.Proofs.Tryz.prog 55 6=some (6,53):=by kernel_rfl
@[simp] theorem strT_55:strT Go.Proofs.Tryz.prog 55=false:=by kernel_rfl
@[simp] theorem zcells_55:zcells Go.Proofs.Tryz.prog 55=some [.d (.int .i64 0),.d (.int .i64 0),.d (.int .i64 0),.d (.int .i64 0),.d (.int .i64 0),.d (.int .i64 0),.d (.str [])]:=by kernel_rfl
@[simp] theorem tbytes_55:tbytes Go.Proofs.Tryz.prog 55=some 64:=by kernel_rfl
@[simp] theorem concrete_55:Go.Proofs.Tryz.prog.concrete 55=true:=by kernel_rfl
@[simp] theorem eqGuard_55:Go.Proofs.Tryz.prog.eqGuardType Go.Proofs.Tryz.prog.depth 55=false:=by kernel_rfl
@[simp] theorem szT_59:szT Go.Proofs.Tryz.prog 59=1:=by kernel_rfl
@[simp] theorem infoS_59:(Go.Proofs.Tryz.prog.info? 59).isSome=true:=by kernel_rfl
@[simp] theorem aggT_59:aggT Go.Proofs.Tryz.prog 59=some false:=by kernel_rfl
@[simp] theorem slT_59:slT Go.Proofs.Tryz.prog 59=some (53,1):=by kernel_rfl
@[simp] theorem strT_59:strT Go.Proofs.Tryz.prog 59=false:=by kernel_rfl
@[simp] theorem zcells_59:zcells Go.Proofs.Tryz.prog 59=some [.d (.nilsl)]:=by kernel_rfl
@[simp] theorem tbytes_59:tbytes Go.Proofs.Tryz.prog 59=some 24:=by kernel_rfl
@[simp] theorem concrete_59:Go.Proofs.Tryz.prog.concrete 59=true:=by kernel_rfl
@[simp] theorem eqGuard_59:Go.Proofs.Tryz.prog.eqGuardType Go.Proofs.Tryz.prog.depth 59=false:=by kernel_rfl
@[simp] theorem szT_67:szT Go.Proofs.Tryz.prog 67=3:=by kernel_rfl
@[simp] theorem infoS_67:(Go.Proofs.Tryz.prog.info? 67).isSome=true:=by kernel_rfl
@[simp] theorem aggT_67:aggT Go.Proofs.Tryz.prog 67=some true:=by kernel_rfl
@[simp] theorem fldT_67_0:fldT Go.Proofs.Tryz.prog 67 0=some (0,3):=by kernel_rfl
@[simp] theorem fldT_67_1:fldT Go.Proofs.Tryz.prog 67 1=some (1,53):=by kernel_rfl
@[simp] theorem fldT_67_2:fldT Go.Proofs.Tryz.prog 67 2=some (2,53):=by kernel_rfl
@[simp] theorem strT_67:strT Go.Proofs.Tryz.prog 67=false:=by kernel_rfl
@[simp] theorem zcells_67:zcells Go.Proofs.Tryz.prog 67=some [.d (.int .i64 0),.d (.str []),.d (.str [])]:=by kernel_rfl
@[simp] theorem tbytes_67:tbytes Go.Proofs.Tryz.prog 67=some 40:=by kernel_rfl
@[simp] theorem concrete_67:Go.Proofs.Tryz.prog.concrete 67=true:=by kernel_rfl
@[simp] theorem eqGuard_67:Go.Proofs.Tryz.prog.eqGuardType Go.Proofs.Tryz.prog.depth 67=false:=by kernel_rfl
@[simp] theorem szT_69:szT Go.Proofs.Tryz.prog 69=2:=by kernel_rfl
@[simp] theorem infoS_69:(Go.Proofs.Tryz.prog.info? 69).isSome=true:=by kernel_rfl
@[simp] theorem aggT_69:aggT Go.Proofs.Tryz.prog 69=some true:=by kernel_rfl
@[simp] theorem fldT_69_0:fldT Go.Proofs.Tryz.prog 69 0=some (0,3):=by kernel_rfl
@[simp] theorem fldT_69_1:fldT Go.Proofs.Tryz.prog 69 1=some (1,3):=by kernel_rfl
@[simp] theorem strT_69:strT Go.Proofs.Tryz.prog 69=false:=by kernel_rfl
@[simp] theorem zcells_69:zcells Go.Proofs.Tryz.prog 69=some [.d (.int .i64 0),.d (.int .i64 0)]:=by kernel_rfl
@[simp] theorem tbytes_69:tbytes Go.Proofs.Tryz.prog 69=some 16:=by kernel_rfl
@[simp] theorem concrete_69:Go.Proofs.Tryz.prog.concrete 69=true:=by kernel_rfl
@[simp] theorem eqGuard_69:Go.Proofs.Tryz.prog.eqGuardType Go.Proofs.Tryz.prog.depth 69=false:=by kernel_rfl
@[simp] theorem szT_81:szT Go.Proofs.Tryz.prog 81=2:=by kernel_rfl
@[simp] theorem infoS_81:(Go.Proofs.Tryz.prog.info? 81).isSome=true:=by kernel_rfl
@[simp] theorem aggT_81:aggT Go.Proofs.Tryz.prog 81=some true:=by kernel_rfl
@[simp] theorem fldT_81_0:fldT Go.Proofs.Tryz.prog 81 0=some (0,3):=by kernel_rfl
@[simp] theorem fldT_81_1:fldT Go.Proofs.Tryz.prog 81 1=some (1,3):=by kernel_rfl
@[simp] theorem strT_81:strT Go.Proofs.Tryz.prog 81=false:=by kernel_rfl
@[simp] theorem zcells_81:zcells Go.Proofs.Tryz.prog 81=some [.d (.int .i64 0),.d (.int .i64 0)]:=by kernel_rfl
@[simp] theorem tbytes_81:tbytes Go.Proofs.Tryz.prog 81=some 16:=by kernel_rfl
@[simp] theorem concrete_81:Go.Proofs.Tryz.prog.concrete 81=true:=by kernel_rfl
@[simp] theorem eqGuard_81:Go.Proofs.Tryz.prog.eqGuardType Go.Proofs.Tryz.prog.depth 81=false:=by kernel_rfl
@[simp] theorem szT_85:szT Go.Proofs.Tryz.prog 85=4:=by kernel_rfl
@[simp] theorem infoS_85:(Go.Proofs.Tryz.prog.info? 85).isSome=true:=by kernel_rfl
@[simp] theorem aggT_85:aggT Go.Proofs.Tryz.prog 85=some true:=by kernel_rfl
@[simp] theorem arT_85:arT Go.Proofs.Tryz.prog 85=some (4,3,1):=by kernel_rfl
@[simp] theorem strT_85:strT Go.Proofs.Tryz.prog 85=false:=by kernel_rfl
@[simp] theorem zcells_85:zcells Go.Proofs.Tryz.prog 85=some [.d (.int .i64 0),.d (.int .i64 0),.d (.int .i64 0),.d (.int .i64 0)]:=by kernel_rfl
@[simp] theorem tbytes_85:tbytes Go.Proofs.Tryz.prog 85=some 32:=by kernel_rfl
@[simp] theorem concrete_85:Go.Proofs.Tryz.prog.concrete 85=true:=by kernel_rfl
@[simp] theorem eqGuard_85:Go.Proofs.Tryz.prog.eqGuardType Go.Proofs.Tryz.prog.depth 85=false:=by kernel_rfl
@[simp] theorem szT_154:szT Go.Proofs.Tryz.prog 154=8:=by kernel_rfl
@[simp] theorem infoS_154:(Go.Proofs.Tryz.prog.info? 154).isSome=true:=by kernel_rfl
@[simp] theorem aggT_154:aggT Go.Proofs.Tryz.prog 154=some true:=by kernel_rfl
@[simp] theorem fldT_154_0:fldT Go.Proofs.Tryz.prog 154 0=some (0,27):=by kernel_rfl
@[simp] theorem strT_154:strT Go.Proofs.Tryz.prog 154=false:=by kernel_rfl
@[simp] theorem zcells_154:zcells Go.Proofs.Tryz.prog 154=some [.d (.nilsl),.d (.int .i64 0),.d (.nilsl),.d (.nilsl),.d (.int .i64 0),.d (.int .i64 0),.d (.nilsl),.d (.int .i64 0)]:=by kernel_rfl
@[simp] theorem tbytes_154:tbytes Go.Proofs.Tryz.prog 154=some 128:=by kernel_rfl
@[simp] theorem concrete_154:Go.Proofs.Tryz.prog.concrete 154=true:=by kernel_rfl
@[simp] theorem eqGuard_154:Go.Proofs.Tryz.prog.eqGuardType Go.Proofs.Tryz.prog.depth 154=false:=by kernel_rfl
@[simp] theorem szT_156:szT Go.Proofs.Tryz.prog 156=1:=by kernel_rfl
@[simp] theorem infoS_156:(Go.Proofs.Tryz.prog.info? 156).isSome=true:=by kernel_rfl
@[simp] theorem aggT_156:aggT Go.Proofs.Tryz.prog 156=some false:=by kernel_rfl
@[simp] theorem strT_156:strT Go.Proofs.Tryz.prog 156=false:=by kernel_rfl
@[simp] theorem zcells_156:zcells Go.Proofs.Tryz.prog 156=some [.d (.nilFunc)]:=by kernel_rfl
@[simp] theorem tbytes_156:tbytes Go.Proofs.Tryz.prog 156=some 8:=by kernel_rfl
@[simp] theorem concrete_156:Go.Proofs.Tryz.prog.concrete 156=true:=by kernel_rfl
@[simp] theorem eqGuard_156:Go.Proofs.Tryz.prog.eqGuardType Go.Proofs.Tryz.prog.depth 156=false:=by kernel_rfl
@[simp] theorem szT_157:szT Go.Proofs.Tryz.prog 157=2:=by kernel_rfl
@[simp] theorem infoS_157:(Go.Proofs.Tryz.prog.info? 157).isSome=true:=by kernel_rfl
@[simp] theorem aggT_157:aggT Go.Proofs.Tryz.prog 157=some true:=by kernel_rfl
@[simp] theorem fldT_157_0:fldT Go.Proofs.Tryz.prog 157 0=some (0,3):=by kernel_rfl
@[simp] theorem fldT_157_1:fldT Go.Proofs.Tryz.prog 157 1=some (1,156):=by kernel_rfl
@[simp] theorem strT_157:strT Go.Proofs.Tryz.prog 157=false:=by kernel_rfl
@[simp] theorem zcells_157:zcells Go.Proofs.Tryz.prog 157=some [.d (.int .i64 0),.d (.nilFunc)]:=by kernel_rfl
@[simp] theorem tbytes_157:tbytes Go.Proofs.Tryz.prog 157=some 16:=by kernel_rfl
@[simp] theorem concrete_157:Go.Proofs.Tryz.prog.concrete 157=true:=by kernel_rfl
@[simp] theorem eqGuard_157:Go.Proofs.Tryz.prog.eqGuardType Go.Proofs.Tryz.prog.depth 157=false:=by kernel_rfl
@[simp] theorem szT_158:szT Go.Proofs.Tryz.prog 158=1:=by kernel_rfl
@[simp] theorem infoS_158:(Go.Proofs.Tryz.prog.info? 158).isSome=true:=by kernel_rfl
@[simp] theorem aggT_158:aggT Go.Proofs.Tryz.prog 158=some false:=by kernel_rfl
@[simp] theorem slT_158:slT Go.Proofs.Tryz.prog 158=some (157,2):=by kernel_rfl
@[simp] theorem strT_158:strT Go.Proofs.Tryz.prog 158=false:=by kernel_rfl
@[simp] theorem zcells_158:zcells Go.Proofs.Tryz.prog 158=some [.d (.nilsl)]:=by kernel_rfl
@[simp] theorem tbytes_158:tbytes Go.Proofs.Tryz.prog 158=some 24:=by kernel_rfl
@[simp] theorem concrete_158:Go.Proofs.Tryz.prog.concrete 158=true:=by kernel_rfl
@[simp] theorem eqGuard_158:Go.Proofs.Tryz.prog.eqGuardType Go.Proofs.Tryz.prog.depth 158=false:=by kernel_rfl
@[simp] theorem szT_168:szT Go.Proofs.Tryz.prog 168=2:=by kernel_rfl
@[simp] theorem infoS_168:(Go.Proofs.Tryz.prog.info? 168).isSome=true:=by kernel_rfl
@[simp] theorem aggT_168:aggT Go.Proofs.Tryz.prog 168=some true:=by kernel_rfl
@[simp] theorem fldT_168_0:fldT Go.Proofs.Tryz.prog 168 0=some (0,3):=by kernel_rfl
@[simp] theorem fldT_168_1:fldT Go.Proofs.Tryz.prog 168 1=some (1,3):=by kernel_rfl
@[simp] theorem strT_168:strT Go.Proofs.Tryz.prog 168=false:=by kernel_rfl
@[simp] theorem zcells_168:zcells Go.Proofs.Tryz.prog 168=some [.d (.int .i64 0),.d (.int .i64 0)]:=by kernel_rfl
@[simp] theorem tbytes_168:tbytes Go.Proofs.Tryz.prog 168=some 16:=by kernel_rfl
@[simp] theorem concrete_168:Go.Proofs.Tryz.prog.concrete 168=true:=by kernel_rfl
@[simp] theorem eqGuard_168:Go.Proofs.Tryz.prog.eqGuardType Go.Proofs.Tryz.prog.depth 168=false:=by kernel_rfl
@[simp] theorem szT_221:szT Go.Proofs.Tryz.prog 221=1:=by kernel_rfl
@[simp] theorem infoS_221:(Go.Proofs.Tryz.prog.info? 221).isSome=true:=by kernel_rfl
@[simp] theorem aggT_221:aggT Go.Proofs.Tryz.prog 221=some false:=by kernel_rfl
@[simp] theorem slT_221:slT Go.Proofs.Tryz.prog 221=some (322,1):=by kernel_rfl
@[simp] theorem strT_221:strT Go.Proofs.Tryz.prog 221=false:=by kernel_rfl
@[simp] theorem zcells_221:zcells Go.Proofs.Tryz.prog 221=some [.d (.nilsl)]:=by kernel_rfl
@[simp] theorem tbytes_221:tbytes Go.Proofs.Tryz.prog 221=some 24:=by kernel_rfl
@[simp] theorem concrete_221:Go.Proofs.Tryz.prog.concrete 221=true:=by kernel_rfl
@[simp] theorem eqGuard_221:Go.Proofs.Tryz.prog.eqGuardType Go.Proofs.Tryz.prog.depth 221=false:=by kernel_rfl
@[simp] theorem szT_222:szT Go.Proofs.Tryz.prog 222=1:=by kernel_rfl
@[simp] theorem infoS_222:(Go.Proofs.Tryz.prog.info? 222).isSome=true:=by kernel_rfl
@[simp] theorem aggT_222:aggT Go.Proofs.Tryz.prog 222=some false:=by kernel_rfl
@[simp] theorem slT_222:slT Go.Proofs.Tryz.prog 222=some (322,1):=by kernel_rfl
@[simp] theorem strT_222:strT Go.Proofs.Tryz.prog 222=false:=by kernel_rfl
@[simp] theorem zcells_222:zcells Go.Proofs.Tryz.prog 222=some [.d (.nilsl)]:=by kernel_rfl
@[simp] theorem tbytes_222:tbytes Go.Proofs.Tryz.prog 222=some 24:=by kernel_rfl
@[simp] theorem concrete_222:Go.Proofs.Tryz.prog.concrete 222=true:=by kernel_rfl
@[simp] theorem eqGuard_222:Go.Proofs.Tryz.prog.eqGuardType Go.Proofs.Tryz.prog.depth 222=false:=by kernel_rfl
@[simp] theorem szT_224:szT Go.Proofs.Tryz.prog 224=3:=by kernel_rfl
@[simp] theorem infoS_224:(Go.Proofs.Tryz.prog.info? 224).isSome=true:=by kernel_rfl
@[simp] theorem aggT_224:aggT Go.Proofs.Tryz.prog 224=some true:=by kernel_rfl
@[simp] theorem fldT_224_0:fldT Go.Proofs.Tryz.prog 224 0=some (0,4):=by kernel_rfl
@[simp] theorem fldT_224_1:fldT Go.Proofs.Tryz.prog 224 1=some (1,222):=by kernel_rfl
@[simp] theorem fldT_224_2:fldT Go.Proofs.Tryz.prog 224 2=some (2,222):=by kernel_rfl
@[simp] theorem strT_224:strT Go.Proofs.Tryz.prog 224=false:=by kernel_rfl
@[simp] theorem zcells_224:zcells Go.Proofs.Tryz.prog 224=some [.d (.bool false),.d (.nilsl),.d (.nilsl)]:=by kernel_rfl
@[simp] theorem tbytes_224:tbytes Go.Proofs.Tryz.prog 224=some 56:=by kernel_rfl
@[simp] theorem concrete_224:Go.Proofs.Tryz.prog.concrete 224=true:=by kernel_rfl
@[simp] theorem eqGuard_224:Go.Proofs.Tryz.prog.eqGuardType Go.Proofs.Tryz.prog.depth 224=false:=by kernel_rfl
@[simp] theorem szT_225:szT Go.Proofs.Tryz.prog 225=6:=by kernel_rfl
@[simp] theorem infoS_225:(Go.Proofs.Tryz.prog.info? 225).isSome=true:=by kernel_rfl
@[simp] theorem aggT_225:aggT Go.Proofs.Tryz.prog 225=some true:=by kernel_rfl
@[simp] theorem arT_225:arT Go.Proofs.Tryz.prog 225=some (2,224,3):=by kernel_rfl
@[simp] theorem strT_225:strT Go.Proofs.Tryz.prog 225=false:=by kernel_rfl
@[simp] theorem zcells_225:zcells Go.Proofs.Tryz.prog 225=some [.d (.bool false),.d (.nilsl),.d (.nilsl),.d (.bool false),.d (.nilsl),.d (.nilsl)]:=by kernel_rfl
@[simp] theorem tbytes_225:tbytes Go.Proofs.Tryz.prog 225=some 112:=by kernel_rfl
@[simp] theorem concrete_225:Go.Proofs.Tryz.prog.concrete 225=true:=by kernel_rfl
@[simp] theorem eqGuard_225:Go.Proofs.Tryz.prog.eqGuardType Go.Proofs.Tryz.prog.depth 225=false:=by kernel_rfl
@[simp] theorem szT_271:szT Go.Proofs.Tryz.prog 271=1:=by kernel_rfl
@[simp] theorem infoS_271:(Go.Proofs.Tryz.prog.info? 271).isSome=true:=by kernel_rfl
@[simp] theorem aggT_271:aggT Go.Proofs.Tryz.prog 271=some false:=by kernel_rfl
@[simp] theorem strT_271:strT Go.Proofs.Tryz.prog 271=false:=by kernel_rfl
@[simp] theorem intT_271:intT Go.Proofs.Tryz.prog 271=some .u64:=by kernel_rfl
@[simp] theorem zcells_271:zcells Go.Proofs.Tryz.prog 271=some [.d (.int .u64 0)]:=by kernel_rfl
@[simp] theorem tbytes_271:tbytes Go.Proofs.Tryz.prog 271=some 8:=by kernel_rfl
@[simp] theorem concrete_271:Go.Proofs.Tryz.prog.concrete 271=true:=by kernel_rfl
@[simp] theorem eqGuard_271:Go.Proofs.Tryz.prog.eqGuardType Go.Proofs.Tryz.prog.depth 271=false:=by kernel_rfl
@[simp] theorem szT_282:szT Go.Proofs.Tryz.prog 282=4:=by kernel_rfl
@[simp] theorem infoS_282:(Go.Proofs.Tryz.prog.info? 282).isSome=true:=by kernel_rfl
@[simp] theorem aggT_282:aggT Go.Proofs.Tryz.prog 282=some true:=by kernel_rfl
@[simp] theorem fldT_282_0:fldT Go.Proofs.Tryz.prog 282 0=some (0,81):=by kernel_rfl
@[simp] theorem fldT_282_1:fldT Go.Proofs.Tryz.prog 282 1=some (2,3):=by kernel_rfl
@[simp] theorem fldT_282_2:fldT Go.Proofs.Tryz.prog 282 2=some (3,3):=by kernel_rfl
@[simp] theorem strT_282:strT Go.Proofs.Tryz.prog 282=false:=by kernel_rfl
@[simp] theorem zcells_282:zcells Go.Proofs.Tryz.prog 282=some [.d (.int .i64 0),.d (.int .i64 0),.d (.int .i64 0),.d (.int .i64 0)]:=by kernel_rfl
@[simp] theorem tbytes_282:tbytes Go.Proofs.Tryz.prog 282=some 32:=by kernel_rfl
@[simp] theorem concrete_282:Go.Proofs.Tryz.prog.concrete 282=true:=by kernel_rfl
@[simp] theorem eqGuard_282:Go.Proofs.Tryz.prog.eqGuardType Go.Proofs.Tryz.prog.depth 282=false:=by kernel_rfl
@[simp] theorem szT_322:szT Go.Proofs.Tryz.prog 322=1:=by kernel_rfl
@[simp] theorem infoS_322:(Go.Proofs.Tryz.prog.info? 322).isSome=true:=by kernel_rfl
@[simp] theorem aggT_322:aggT Go.Proofs.Tryz.prog 322=some false:=by kernel_rfl
@[simp] theorem strT_322:strT Go.Proofs.Tryz.prog 322=false:=by kernel_rfl
@[simp] theorem intT_322:intT Go.Proofs.Tryz.prog 322=some .u32:=by kernel_rfl
@[simp] theorem zcells_322:zcells Go.Proofs.Tryz.prog 322=some [.d (.int .u32 0)]:=by kernel_rfl
@[simp] theorem tbytes_322:tbytes Go.Proofs.Tryz.prog 322=some 4:=by kernel_rfl
@[simp] theorem concrete_322:Go.Proofs.Tryz.prog.concrete 322=true:=by kernel_rfl
@[simp] theorem eqGuard_322:Go.Proofs.Tryz.prog.eqGuardType Go.Proofs.Tryz.prog.depth 322=false:=by kernel_rfl
@[simp] theorem szT_324:szT Go.Proofs.Tryz.prog 324=1:=by kernel_rfl
@[simp] theorem infoS_324:(Go.Proofs.Tryz.prog.info? 324).isSome=true:=by kernel_rfl
@[simp] theorem aggT_324:aggT Go.Proofs.Tryz.prog 324=some false:=by kernel_rfl
@[simp] theorem strT_324:strT Go.Proofs.Tryz.prog 324=false:=by kernel_rfl
@[simp] theorem intT_324:intT Go.Proofs.Tryz.prog 324=some .u64:=by kernel_rfl
@[simp] theorem zcells_324:zcells Go.Proofs.Tryz.prog 324=some [.d (.int .u64 0)]:=by kernel_rfl
@[simp] theorem tbytes_324:tbytes Go.Proofs.Tryz.prog 324=some 8:=by kernel_rfl
@[simp] theorem concrete_324:Go.Proofs.Tryz.prog.concrete 324=true:=by kernel_rfl
@[simp] theorem eqGuard_324:Go.Proofs.Tryz.prog.eqGuardType Go.Proofs.Tryz.prog.depth 324=false:=by kernel_rfl
@[simp] theorem szT_325:szT Go.Proofs.Tryz.prog 325=1:=by kernel_rfl
@[simp] theorem infoS_325:(Go.Proofs.Tryz.prog.info? 325).isSome=true:=by kernel_rfl
@[simp] theorem aggT_325:aggT Go.Proofs.Tryz.prog 325=some false:=by kernel_rfl
@[simp] theorem slT_325:slT Go.Proofs.Tryz.prog 325=some (327,2):=by kernel_rfl
@[simp] theorem strT_325:strT Go.Proofs.Tryz.prog 325=false:=by kernel_rfl
@[simp] theorem zcells_325:zcells Go.Proofs.Tryz.prog 325=some [.d (.nilsl)]:=by kernel_rfl
@[simp] theorem tbytes_325:tbytes Go.Proofs.Tryz.prog 325=some 24:=by kernel_rfl
@[simp] theorem concrete_325:Go.Proofs.Tryz.prog.concrete 325=true:=by kernel_rfl
@[simp] theorem eqGuard_325:Go.Proofs.Tryz.prog.eqGuardType Go.Proofs.Tryz.prog.depth 325=false:=by kernel_rfl
@[simp] theorem szT_342:szT Go.Proofs.Tryz.prog 342=256:=by kernel_rfl
@[simp] theorem infoS_342:(Go.Proofs.Tryz.prog.info? 342).isSome=true:=by kernel_rfl
@[simp] theorem aggT_342:aggT Go.Proofs.Tryz.prog 342=some true:=by kernel_rfl
@[simp] theorem arT_342:arT Go.Proofs.Tryz.prog 342=some (256,4,1):=by kernel_rfl
@[simp] theorem strT_342:strT Go.Proofs.Tryz.prog 342=false:=by kernel_rfl
@[simp] theorem tbytes_342:tbytes Go.Proofs.Tryz.prog 342=some 256:=by kernel_rfl
@[simp] theorem concrete_342:Go.Proofs.Tryz.prog.concrete 342=true:=by kernel_rfl
@[simp] theorem eqGuard_342:Go.Proofs.Tryz.prog.eqGuardType Go.Proofs.Tryz.prog.depth 342=false:=by kernel_rfl
@[simp] theorem isFn_16:isFn Go.Proofs.Tryz.prog 16=true:=by kernel_rfl
@[simp] theorem isFn_17:isFn Go.Proofs.Tryz.prog 17=true:=by kernel_rfl
@[simp] theorem isFn_31:isFn Go.Proofs.Tryz.prog 31=true:=by kernel_rfl
@[simp] theorem isFn_35:isFn Go.Proofs.Tryz.prog 35=true:=by kernel_rfl
@[simp] theorem isFn_37:isFn Go.Proofs.Tryz.prog 37=true:=by kernel_rfl
@[simp] theorem isFn_39:isFn Go.Proofs.Tryz.prog 39=true:=by kernel_rfl
@[simp] theorem isFn_41:isFn Go.Proofs.Tryz.prog 41=true:=by kernel_rfl
@[simp] theorem isFn_43:isFn Go.Proofs.Tryz.prog 43=true:=by kernel_rfl
@[simp] theorem isFn_45:isFn Go.Proofs.Tryz.prog 45=true:=by kernel_rfl
@[simp] theorem isFn_47:isFn Go.Proofs.Tryz.prog 47=true:=by kernel_rfl
@[simp] theorem isFn_48:isFn Go.Proofs.Tryz.prog 48=true:=by kernel_rfl
@[simp] theorem isFn_78:isFn Go.Proofs.Tryz.prog 78=true:=by kernel_rfl
@[simp] theorem isFn_82:isFn Go.Proofs.Tryz.prog 82=true:=by kernel_rfl
@[simp] theorem isFn_83:isFn Go.Proofs.Tryz.prog 83=true:=by kernel_rfl
@[simp] theorem isFn_84:isFn Go.Proofs.Tryz.prog 84=true:=by kernel_rfl
@[simp] theorem isFn_85:isFn Go.Proofs.Tryz.prog 85=true:=by kernel_rfl
@[simp] theorem isFn_86:isFn Go.Proofs.Tryz.prog 86=true:=by kernel_rfl
@[simp] theorem isFn_87:isFn Go.Proofs.Tryz.prog 87=true:=by kernel_rfl
@[simp] theorem isFn_88:isFn Go.Proofs.Tryz.prog 88=true:=by kernel_rfl
@[simp] theorem isFn_96:isFn Go.Proofs.Tryz.prog 96=true:=by kernel_rfl
@[simp] theorem isFn_97:isFn Go.Proofs.Tryz.prog 97=true:=by kernel_rfl
@[simp] theorem isFn_100:isFn Go.Proofs.Tryz.prog 100=true:=by kernel_rfl
@[simp] theorem isFn_101:isFn Go.Proofs.Tryz.prog 101=true:=by kernel_rfl
@[simp] theorem isFn_102:isFn Go.Proofs.Tryz.prog 102=true:=by kernel_rfl
@[simp] theorem isFn_103:isFn Go.Proofs.Tryz.prog 103=true:=by kernel_rfl
@[simp] theorem isFn_105:isFn Go.Proofs.Tryz.prog 105=true:=by kernel_rfl
@[simp] theorem isFn_156:isFn Go.Proofs.Tryz.prog 156=true:=by kernel_rfl
@[simp] theorem isFn_157:isFn Go.Proofs.Tryz.prog 157=true:=by kernel_rfl
@[simp] theorem isFn_158:isFn Go.Proofs.Tryz.prog 158=true:=by kernel_rfl
@[simp] theorem isFn_159:isFn Go.Proofs.Tryz.prog 159=true:=by kernel_rfl
@[simp] theorem isFn_160:isFn Go.Proofs.Tryz.prog 160=true:=by kernel_rfl
@[simp] theorem isFn_161:isFn Go.Proofs.Tryz.prog 161=true:=by kernel_rfl
@[simp] theorem isFn_162:isFn Go.Proofs.Tryz.prog 162=true:=by kernel_rfl
@[simp] theorem isFn_163:isFn Go.Proofs.Tryz.prog 163=true:=by kernel_rfl
@[simp] theorem isFn_164:isFn Go.Proofs.Tryz.prog 164=true:=by kernel_rfl
@[simp] theorem isFn_165:isFn Go.Proofs.Tryz.prog 165=true:=by kernel_rfl
@[simp] theorem isFn_166:isFn Go.Proofs.Tryz.prog 166=true:=by kernel_rfl
@[simp] theorem isFn_198:isFn Go.Proofs.Tryz.prog 198=true:=by kernel_rfl
@[simp] theorem isFn_222:isFn Go.Proofs.Tryz.prog 222=true:=by kernel_rfl
@[simp] theorem isFn_223:isFn Go.Proofs.Tryz.prog 223=true:=by kernel_rfl
@[simp] theorem isFn_224:isFn Go.Proofs.Tryz.prog 224=true:=by kernel_rfl
@[simp] theorem isFn_225:isFn Go.Proofs.Tryz.prog 225=true:=by kernel_rfl
@[simp] theorem isFn_226:isFn Go.Proofs.Tryz.prog 226=true:=by kernel_rfl
@[simp] theorem isFn_227:isFn Go.Proofs.Tryz.prog 227=true:=by kernel_rfl
@[simp] theorem isFn_228:isFn Go.Proofs.Tryz.prog 228=true:=by kernel_rfl
@[simp] theorem isFn_229:isFn Go.Proofs.Tryz.prog 229=true:=by kernel_rfl
@[simp] theorem isFn_230:isFn Go.Proofs.Tryz.prog 230=true:=by kernel_rfl
@[simp] theorem isFn_231:isFn Go.Proofs.Tryz.prog 231=true:=by kernel_rfl
@[simp] theorem isFn_232:isFn Go.Proofs.Tryz.prog 232=true:=by kernel_rfl
@[simp] theorem isFn_233:isFn Go.Proofs.Tryz.prog 233=true:=by kernel_rfl
@[simp] theorem isFn_234:isFn Go.Proofs.Tryz.prog 234=true:=by kernel_rfl
@[simp] theorem isFn_235:isFn Go.Proofs.Tryz.prog 235=true:=by kernel_rfl
@[simp] theorem isFn_236:isFn Go.Proofs.Tryz.prog 236=true:=by kernel_rfl
@[simp] theorem isFn_237:isFn Go.Proofs.Tryz.prog 237=true:=by kernel_rfl
@[simp] theorem isFn_238:isFn Go.Proofs.Tryz.prog 238=true:=by kernel_rfl
@[simp] theorem isFn_239:isFn Go.Proofs.Tryz.prog 239=true:=by kernel_rfl
@[simp] theorem isFn_240:isFn Go.Proofs.Tryz.prog 240=true:=by kernel_rfl
@[simp] theorem isFn_241:isFn Go.Proofs.Tryz.prog 241=true:=by kernel_rfl
@[simp] theorem isFn_253:isFn Go.Proofs.Tryz.prog 253=true:=by kernel_rfl
@[simp] theorem isFn_254:isFn Go.Proofs.Tryz.prog 254=true:=by kernel_rfl
@[simp] theorem isFn_255:isFn Go.Proofs.Tryz.prog 255=true:=by kernel_rfl
@[simp] theorem isFn_261:isFn Go.Proofs.Tryz.prog 261=true:=by kernel_rfl
@[simp] theorem isFn_263:isFn Go.Proofs.Tryz.prog 263=true:=by kernel_rfl
@[simp] theorem isFn_276:isFn Go.Proofs.Tryz.prog 276=true:=by kernel_rfl
@[simp] theorem isFn_277:isFn Go.Proofs.Tryz.prog 277=true:=by kernel_rfl
@[simp] theorem isFn_278:isFn Go.Proofs.Tryz.prog 278=true:=by kernel_rfl
@[simp] theorem isFn_280:isFn Go.Proofs.Tryz.prog 280=true:=by kernel_rfl
@[simp] theorem isFn_281:isFn Go.Proofs.Tryz.prog 281=true:=by kernel_rfl
@[simp] theorem isFn_283:isFn Go.Proofs.Tryz.prog 283=true:=by kernel_rfl
@[simp] theorem isFn_284:isFn Go.Proofs.Tryz.prog 284=true:=by kernel_rfl
@[simp] theorem isFn_285:isFn Go.Proofs.Tryz.prog 285=true:=by kernel_rfl
@[simp] theorem isFn_286:isFn Go.Proofs.Tryz.prog 286=true:=by kernel_rfl
@[simp] theorem isFn_287:isFn Go.Proofs.Tryz.prog 287=true:=by kernel_rfl
@[simp] theorem isFn_307:isFn Go.Proofs.Tryz.prog 307=true:=by kernel_rfl
@[simp] theorem isFn_308:isFn Go.Proofs.Tryz.prog 308=true:=by kernel_rfl
@[simp] theorem isFn_309:isFn Go.Proofs.Tryz.prog 309=true:=by kernel_rfl
@[simp] theorem isFn_314:isFn Go.Proofs.Tryz.prog 314=true:=by kernel_rfl
@[simp] theorem isFn_325:isFn Go.Proofs.Tryz.prog 325=true:=by kernel_rfl
@[simp] theorem isFn_326:isFn Go.Proofs.Tryz.prog 326=true:=by kernel_rfl
@[simp] theorem isFn_327:isFn Go.Proofs.Tryz.prog 327=true:=by kernel_rfl
@[simp] theorem isFn_328:isFn Go.Proofs.Tryz.prog 328=true:=by kernel_rfl
@[simp] theorem isFn_329:isFn Go.Proofs.Tryz.prog 329=true:=by kernel_rfl
@[simp] theorem isFn_331:isFn Go.Proofs.Tryz.prog 331=true:=by kernel_rfl
@[simp] theorem isFn_332:isFn Go.Proofs.Tryz.prog 332=true:=by kernel_rfl
@[simp] theorem isFn_333:isFn Go.Proofs.Tryz.prog 333=true:=by kernel_rfl
@[simp] theorem isFn_334:isFn Go.Proofs.Tryz.prog 334=true:=by kernel_rfl
@[simp] theorem isFn_335:isFn Go.Proofs.Tryz.prog 335=true:=by kernel_rfl
@[simp] theorem isFn_344:isFn Go.Proofs.Tryz.prog 344=true:=by kernel_rfl
@[simp] theorem isFn_357:isFn Go.Proofs.Tryz.prog 357=true:=by kernel_rfl
@[simp] theorem isFn_358:isFn Go.Proofs.Tryz.prog 358=true:=by kernel_rfl
@[simp] theorem isFn_359:isFn Go.Proofs.Tryz.prog 359=true:=by kernel_rfl
end Go.Am.Ty
