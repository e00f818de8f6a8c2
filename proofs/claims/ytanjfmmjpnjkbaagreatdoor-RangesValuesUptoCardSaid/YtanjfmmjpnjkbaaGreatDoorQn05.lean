/- Helpers: an abstract machine for Go functions, and walks of functions of the program. -/
import Derived.Test.YtanjfmmjpnjkbaaGreatDoorQn04
import Derived.Test.YtanjfmmjpnjkbaaGreatDoorProg

set_option linter.all false
set_option maxHeartbeats 8000000
set_option maxRecDepth 100000
namespace Go.Am.Ty
open Go.Proofs.Tryz
@[simp] theorem tyF2:szT prog 2=1∧(prog.info? 2).isSome=true∧strT prog 2=false∧intT prog 2=some .i64∧zcells prog 2=some [.d (.int .i64 0)]∧tbytes prog 2=some 8∧prog.concrete 2=true∧prog.eqGuardType prog.depth 2=false:=by and_intros <;> kernel_rfl
@[simp] theorem tyF3:szT prog 3=1∧(prog.info? 3).isSome=true∧aggT prog 3=some false∧strT prog 3=false∧intT prog 3=some .i64∧zcells prog 3=some [.d (.int .i64 0)]∧tbytes prog 3=some 8∧prog.concrete 3=true∧prog.eqGuardType prog.depth 3=false:=by and_intros <;> kernel_rfl
@[simp] theorem tyF4:szT prog 4=1∧(prog.info? 4).isSome=true∧aggT prog 4=some false∧strT prog 4=false∧zcells prog 4=some [.d (.bool false)]∧tbytes prog 4=some 1∧prog.concrete 4=true∧prog.eqGuardType prog.depth 4=false:=by and_intros <;> kernel_rfl
@[simp] theorem tyF5:szT prog 5=1∧(prog.info? 5).isSome=true∧aggT prog 5=some false∧strT prog 5=false∧intT prog 5=some .u8∧zcells prog 5=some [.d (.int .u8 0)]∧tbytes prog 5=some 1∧prog.concrete 5=true∧prog.eqGuardType prog.depth 5=false:=by and_intros <;> kernel_rfl
@[simp] theorem tyF9:szT prog 9=1∧(prog.info? 9).isSome=true∧aggT prog 9=some false∧strT prog 9=true∧zcells prog 9=some [.d (.str [])]∧tbytes prog 9=some 16∧prog.concrete 9=true∧prog.eqGuardType prog.depth 9=false:=by and_intros <;> kernel_rfl
@[simp] theorem tyF22:szT prog 22=1∧(prog.info? 22).isSome=true∧aggT prog 22=some false∧slT prog 22=some (98,2)∧strT prog 22=false∧zcells prog 22=some [.d (.nilsl)]∧tbytes prog 22=some 24∧prog.concrete 22=true∧prog.eqGuardType prog.depth 22=false:=by and_intros <;> kernel_rfl
@[simp] theorem tyF23:szT prog 23=1∧(prog.info? 23).isSome=true∧aggT prog 23=some false∧slT prog 23=some (37,2)∧strT prog 23=false∧zcells prog 23=some [.d (.nilsl)]∧tbytes prog 23=some 24∧prog.concrete 23=true∧prog.eqGuardType prog.depth 23=false:=by and_intros <;> kernel_rfl
@[simp] theorem tyF24:szT prog 24=1∧(prog.info? 24).isSome=true∧aggT prog 24=some false∧strT prog 24=false∧zcells prog 24=some [.d (.nilsl)]∧tbytes prog 24=some 24∧prog.concrete 24=true∧prog.eqGuardType prog.depth 24=false:=by and_intros <;> kernel_rfl
@[simp] theorem tyF25:szT prog 25=1∧(prog.info? 25).isSome=true∧aggT prog 25=some false∧strT prog 25=false∧zcells prog 25=some [.d (.nilsl)]∧tbytes prog 25=some 24∧prog.concrete 25=true∧prog.eqGuardType prog.depth 25=false:=by and_intros <;> kernel_rfl
@[simp] theorem tyF27:szT prog 27=3∧(prog.info? 27).isSome=true∧aggT prog 27=some true∧fldT prog 27 0=some (0,4)∧fldT prog 27 1=some (1,25)∧fldT prog 27 2=some (2,25)∧strT prog 27=false∧zcells prog 27=some [.d (.bool false),.d (.nilsl),.d (.nilsl)]∧tbytes prog 27=some 56∧prog.concrete 27=true∧prog.eqGuardType prog.depth 27=false:=by and_intros <;> kernel_rfl
@[simp] theorem tyF29:szT prog 29=6∧(prog.info? 29).isSome=true∧aggT prog 29=some true∧fldT prog 29 0=some (0,27)∧fldT prog 29 1=some (3,27)∧strT prog 29=false∧zcells prog 29=some [.d (.bool false),.d (.nilsl),.d (.nilsl),.d (.bool false),.d (.nilsl),.d (.nilsl)]∧tbytes prog 29=some 112∧prog.concrete 29=true∧prog.eqGuardType prog.depth 29=false:=by and_intros <;> kernel_rfl
@[simp] theorem tyF35:szT prog 35=1∧(prog.info? 35).isSome=true∧aggT prog 35=some false∧strT prog 35=true∧zcells prog 35=some [.d (.str [])]∧tbytes prog 35=some 16∧prog.concrete 35=true∧prog.eqGuardType prog.depth 35=false:=by and_intros <;> kernel_rfl
@[simp] theorem tyF37:szT prog 37=2∧(prog.info? 37).isSome=true∧aggT prog 37=some true∧fldT prog 37 0=some (0,35)∧fldT prog 37 1=some (1,35)∧strT prog 37=false∧zcells prog 37=some [.d (.str []),.d (.str [])]∧tbytes prog 37=some 32∧prog.concrete 37=true∧prog.eqGuardType prog.depth 37=false:=by and_intros <;> kernel_rfl
@[simp] theorem tyF47:szT prog 47=1∧(prog.info? 47).isSome=true∧aggT prog 47=some false∧slT prog 47=some (9,1)∧strT prog 47=false∧zcells prog 47=some [.d (.nilsl)]∧tbytes prog 47=some 24∧prog.concrete 47=true∧prog.eqGuardType prog.depth 47=false:=by and_intros <;> kernel_rfl
@[simp] theorem tyF48:szT prog 48=1∧(prog.info? 48).isSome=true∧aggT prog 48=some false∧slT prog 48=some (27,3)∧strT prog 48=false∧zcells prog 48=some [.d (.nilsl)]∧tbytes prog 48=some 24∧prog.concrete 48=true∧prog.eqGuardType prog.depth 48=false:=by and_intros <;> kernel_rfl
@[simp] theorem tyF49:szT prog 49=1∧(prog.info? 49).isSome=true∧aggT prog 49=some false∧slT prog 49=some (55,3)∧strT prog 49=false∧zcells prog 49=some [.d (.nilsl)]∧tbytes prog 49=some 24∧prog.concrete 49=true∧prog.eqGuardType prog.depth 49=false:=by and_intros <;> kernel_rfl
@[simp] theorem tyF53:szT prog 53=1∧(prog.info? 53).isSome=true∧aggT prog 53=some false∧strT prog 53=false∧zcells prog 53=some [.d (.nilsl)]∧tbytes prog 53=some 24∧prog.concrete 53=true∧prog.eqGuardType prog.depth 53=false:=by and_intros <;> kernel_rfl
@[simp] theorem tyF55:szT prog 55=3∧(prog.info? 55).isSome=true∧aggT prog 55=some true∧fldT prog 55 0=some (0,3)∧fldT prog 55 1=some (1,53)∧fldT prog 55 2=some (2,53)∧strT prog 55=false∧zcells prog 55=some [.d (.int .i64 0),.d (.nilsl),.d (.nilsl)]∧tbytes prog 55=some 56∧prog.concrete 55=true∧prog.eqGuardType prog.depth 55=false:=by and_intros <;> kernel_rfl
@[simp] theorem tyF59:szT prog 59=1∧(prog.info? 59).isSome=true∧aggT prog 59=some false∧slT prog 59=some (3,1)∧strT prog 59=false∧zcells prog 59=some [.d (.nilsl)]∧tbytes prog 59=some 24∧prog.concrete 59=true∧prog.eqGuardType prog.depth 59=false:=by and_intros <;> kernel_rfl
@[simp] theorem tyF89:szT prog 89=1∧(prog.info? 89).isSome=true∧aggT prog 89=some false∧slT prog 89=some (29,6)∧strT prog 89=false∧zcells prog 89=some [.d (.nilsl)]∧tbytes prog 89=some 24∧prog.concrete 89=true∧prog.eqGuardType prog.depth 89=false:=by and_intros <;> kernel_rfl
@[simp] theorem tyF98:szT prog 98=2∧(prog.info? 98).isSome=true∧aggT prog 98=some true∧fldT prog 98 0=some (0,35)∧fldT prog 98 1=some (1,59)∧strT prog 98=false∧zcells prog 98=some [.d (.str []),.d (.nilsl)]∧tbytes prog 98=some 40∧prog.concrete 98=true∧prog.eqGuardType prog.depth 98=false:=by and_intros <;> kernel_rfl
@[simp] theorem tyF104:szT prog 104=1∧(prog.info? 104).isSome=true∧aggT prog 104=some false∧slT prog 104=some (105,1)∧strT prog 104=false∧zcells prog 104=some [.d (.nilsl)]∧tbytes prog 104=some 24∧prog.concrete 104=true∧prog.eqGuardType prog.depth 104=false:=by and_intros <;> kernel_rfl
@[simp] theorem tyF105:szT prog 105=1∧(prog.info? 105).isSome=true∧aggT prog 105=some false∧strT prog 105=false∧zcells prog 105=some [.d (.nilp)]∧tbytes prog 105=some 8∧prog.concrete 105=true∧prog.eqGuardType prog.depth 105=false:=by and_intros <;> kernel_rfl
@[simp] theorem tyF135:szT prog 135=1∧(prog.info? 135).isSome=true∧aggT prog 135=some false∧strT prog 135=false∧zcells prog 135=some [.d (.int .u64 0)]∧tbytes prog 135=some 8∧prog.concrete 135=true∧prog.eqGuardType prog.depth 135=false:=by and_intros <;> kernel_rfl
@[simp] theorem tyF138:strT prog 138=false∧prog.concrete 138=true∧prog.eqGuardType prog.depth 138=false:=by and_intros <;> kernel_rfl
@[simp] theorem tyF139:szT prog 139=1∧(prog.info? 139).isSome=true∧aggT prog 139=some false∧strT prog 139=false∧intT prog 139=some .u64∧zcells prog 139=some [.d (.int .u64 0)]∧tbytes prog 139=some 8∧prog.concrete 139=true∧prog.eqGuardType prog.depth 139=false:=by and_intros <;> kernel_rfl
@[simp] theorem tyF149:szT prog 149=1∧(prog.info? 149).isSome=true∧aggT prog 149=some false∧slT prog 149=some (5,1)∧strT prog 149=false∧zcells prog 149=some [.d (.nilsl)]∧tbytes prog 149=some 24∧prog.concrete 149=true∧prog.eqGuardType prog.depth 149=false:=by and_intros <;> kernel_rfl
@[simp] theorem tyF227:szT prog 227=256∧(prog.info? 227).isSome=true∧aggT prog 227=some true∧arT prog 227=some (256,4,1)∧strT prog 227=false∧tbytes prog 227=some 256∧prog.concrete 227=true∧prog.eqGuardType prog.depth 227=false:=by and_intros <;> kernel_rfl
@[simp] theorem fnF0:isFn prog 6=true∧isFn prog 7=true∧isFn prog 8=true∧isFn prog 9=true∧isFn prog 10=true∧isFn prog 11=true∧isFn prog 16=true∧isFn prog 17=true∧isFn prog 20=true∧isFn prog 24=true∧isFn prog 25=true∧isFn prog 26=true∧isFn prog 27=true∧isFn prog 28=true∧isFn prog 34=true∧isFn prog 35=true∧isFn prog 36=true∧isFn prog 37=true∧isFn prog 38=true∧isFn prog 39=true∧isFn prog 40=true∧isFn prog 41=true∧isFn prog 42=true∧isFn prog 43=true∧isFn prog 46=true:=by and_intros <;> kernel_rfl
@[simp] theorem fnF25:isFn prog 47=true∧isFn prog 48=true∧isFn prog 49=true∧isFn prog 50=true∧isFn prog 56=true∧isFn prog 57=true∧isFn prog 58=true∧isFn prog 59=true∧isFn prog 66=true∧isFn prog 67=true∧isFn prog 68=true∧isFn prog 74=true∧isFn prog 75=true∧isFn prog 76=true∧isFn prog 77=true∧isFn prog 78=true∧isFn prog 79=true∧isFn prog 80=true∧isFn prog 82=true∧isFn prog 83=true∧isFn prog 84=true∧isFn prog 89=true∧isFn prog 90=true∧isFn prog 91=true∧isFn prog 92=true:=by and_intros <;> kernel_rfl
@[simp] theorem fnF50:isFn prog 93=true∧isFn prog 95=true∧isFn prog 96=true∧isFn prog 98=true∧isFn prog 99=true∧isFn prog 100=true∧isFn prog 101=true∧isFn prog 102=true∧isFn prog 103=true∧isFn prog 104=true∧isFn prog 124=true∧isFn prog 127=true∧isFn prog 128=true∧isFn prog 129=true∧isFn prog 132=true∧isFn prog 133=true∧isFn prog 134=true∧isFn prog 135=true∧isFn prog 142=true∧isFn prog 143=true∧isFn prog 144=true∧isFn prog 145=true∧isFn prog 146=true∧isFn prog 148=true∧isFn prog 149=true:=by and_intros <;> kernel_rfl
@[simp] theorem fnF75:isFn prog 163=true∧isFn prog 164=true∧isFn prog 168=true∧isFn prog 169=true∧isFn prog 172=true∧isFn prog 173=true∧isFn prog 174=true∧isFn prog 178=true∧isFn prog 187=true∧isFn prog 188=true∧isFn prog 202=true∧isFn prog 203=true∧isFn prog 206=true∧isFn prog 208=true∧isFn prog 212=true∧isFn prog 228=true∧isFn prog 229=true∧isFn prog 230=true∧isFn prog 245=true:=by and_intros <;> kernel_rfl
@[simp] theorem aggT_2:aggT prog 2=some false:=by kernel_rfl
@[simp] theorem slT_24:slT prog 24=some (138,1):=by kernel_rfl
@[simp] theorem slT_25:slT prog 25=some (138,1):=by kernel_rfl
@[simp] theorem slT_53:slT prog 53=some (2,1):=by kernel_rfl
@[simp] theorem intT_135:intT prog 135=some .u64:=by kernel_rfl
@[simp] theorem szT_138:szT prog 138=1:=by kernel_rfl
@[simp] theorem infoS_138:(prog.info? 138).isSome=true:=by kernel_rfl
@[simp] theorem aggT_138:aggT prog 138=some false:=by kernel_rfl
@[simp] theorem intT_138:intT prog 138=some .u32:=by kernel_rfl
@[simp] theorem zcells_138:zcells prog 138=some [.d (.int .u32 0)]:=by kernel_rfl
@[simp] theorem tbytes_138:tbytes prog 138=some 4:=by kernel_rfl
@[simp] theorem isFn_81:isFn prog 81=true:=by kernel_rfl
@[simp] theorem isFn_131:isFn prog 131=true:=by kernel_rfl
end Go.Am.Ty
