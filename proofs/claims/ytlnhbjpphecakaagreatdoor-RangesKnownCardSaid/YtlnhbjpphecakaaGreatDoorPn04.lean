/- Helpers: an abstract machine for Go functions, and walks of functions of the program. -/
import Derived.Test.YtlnhbjpphecakaaGreatDoorPn03
import Derived.Test.YtlnhbjpphecakaaGreatDoorProg

set_option linter.all false
set_option maxHeartbeats 8000000
set_option maxRecDepth 100000
namespace Go.Am.Ty
open Go.Proofs.Tryz
@[simp] theorem tyF3:szT prog 3=1∧(prog.info? 3).isSome=true∧aggT prog 3=some false∧strT prog 3=false∧intT prog 3=some .i64∧zcells prog 3=some [.d (.int .i64 0)]∧tbytes prog 3=some 8∧prog.concrete 3=true∧prog.eqGuardType prog.depth 3=false:=by and_intros <;> kernel_rfl
@[simp] theorem tyF4:szT prog 4=1∧(prog.info? 4).isSome=true∧aggT prog 4=some false∧strT prog 4=false∧zcells prog 4=some [.d (.bool false)]∧tbytes prog 4=some 1∧prog.concrete 4=true∧prog.eqGuardType prog.depth 4=false:=by and_intros <;> kernel_rfl
@[simp] theorem tyF5:szT prog 5=1∧(prog.info? 5).isSome=true∧aggT prog 5=some false∧strT prog 5=false∧intT prog 5=some .u8∧zcells prog 5=some [.d (.int .u8 0)]∧tbytes prog 5=some 1∧prog.concrete 5=true∧prog.eqGuardType prog.depth 5=false:=by and_intros <;> kernel_rfl
@[simp] theorem tyF9:szT prog 9=1∧(prog.info? 9).isSome=true∧aggT prog 9=some false∧strT prog 9=true∧zcells prog 9=some [.d (.str [])]∧tbytes prog 9=some 16∧prog.concrete 9=true∧prog.eqGuardType prog.depth 9=false:=by and_intros <;> kernel_rfl
@[simp] theorem tyF27:szT prog 27=1∧(prog.info? 27).isSome=true∧aggT prog 27=some false∧strT prog 27=false∧zcells prog 27=some [.d (.nilsl)]∧tbytes prog 27=some 24∧prog.concrete 27=true∧prog.eqGuardType prog.depth 27=false:=by and_intros <;> kernel_rfl
@[simp] theorem tyF28:szT prog 28=1∧(prog.info? 28).isSome=true∧aggT prog 28=some false∧strT prog 28=false∧zcells prog 28=some [.d (.nilsl)]∧tbytes prog 28=some 24∧prog.concrete 28=true∧prog.eqGuardType prog.depth 28=false:=by and_intros <;> kernel_rfl
@[simp] theorem tyF30:szT prog 30=3∧(prog.info? 30).isSome=true∧aggT prog 30=some true∧fldT prog 30 0=some (0,4)∧fldT prog 30 1=some (1,28)∧fldT prog 30 2=some (2,28)∧strT prog 30=false∧zcells prog 30=some [.d (.bool false),.d (.nilsl),.d (.nilsl)]∧tbytes prog 30=some 56∧prog.concrete 30=true∧prog.eqGuardType prog.depth 30=false:=by and_intros <;> kernel_rfl
@[simp] theorem tyF32:szT prog 32=6∧(prog.info? 32).isSome=true∧aggT prog 32=some true∧fldT prog 32 0=some (0,30)∧fldT prog 32 1=some (3,30)∧strT prog 32=false∧zcells prog 32=some [.d (.bool false),.d (.nilsl),.d (.nilsl),.d (.bool false),.d (.nilsl),.d (.nilsl)]∧tbytes prog 32=some 112∧prog.concrete 32=true∧prog.eqGuardType prog.depth 32=false:=by and_intros <;> kernel_rfl
@[simp] theorem tyF87:szT prog 87=1∧(prog.info? 87).isSome=true∧aggT prog 87=some false∧slT prog 87=some (30,3)∧strT prog 87=false∧zcells prog 87=some [.d (.nilsl)]∧tbytes prog 87=some 24∧prog.concrete 87=true∧prog.eqGuardType prog.depth 87=false:=by and_intros <;> kernel_rfl
@[simp] theorem tyF123:szT prog 123=1∧(prog.info? 123).isSome=true∧aggT prog 123=some false∧strT prog 123=false∧zcells prog 123=some [.d (.int .u64 0)]∧tbytes prog 123=some 8∧prog.concrete 123=true∧prog.eqGuardType prog.depth 123=false:=by and_intros <;> kernel_rfl
@[simp] theorem tyF194:strT prog 194=false∧prog.concrete 194=true∧prog.eqGuardType prog.depth 194=false:=by and_intros <;> kernel_rfl
@[simp] theorem tyF196:szT prog 196=1∧(prog.info? 196).isSome=true∧aggT prog 196=some false∧strT prog 196=false∧intT prog 196=some .u64∧zcells prog 196=some [.d (.int .u64 0)]∧tbytes prog 196=some 8∧prog.concrete 196=true∧prog.eqGuardType prog.depth 196=false:=by and_intros <;> kernel_rfl
@[simp] theorem tyF224:szT prog 224=1∧(prog.info? 224).isSome=true∧aggT prog 224=some false∧slT prog 224=some (9,1)∧strT prog 224=false∧zcells prog 224=some [.d (.nilsl)]∧tbytes prog 224=some 24∧prog.concrete 224=true∧prog.eqGuardType prog.depth 224=false:=by and_intros <;> kernel_rfl
@[simp] theorem tyF230:szT prog 230=1∧(prog.info? 230).isSome=true∧aggT prog 230=some false∧slT prog 230=some (5,1)∧strT prog 230=false∧zcells prog 230=some [.d (.nilsl)]∧tbytes prog 230=some 24∧prog.concrete 230=true∧prog.eqGuardType prog.depth 230=false:=by and_intros <;> kernel_rfl
@[simp] theorem tyF232:szT prog 232=2∧(prog.info? 232).isSome=true∧aggT prog 232=some true∧fldT prog 232 0=some (0,229)∧fldT prog 232 1=some (1,230)∧strT prog 232=false∧zcells prog 232=some [.d (.nilp),.d (.nilsl)]∧tbytes prog 232=some 32∧prog.concrete 232=true∧prog.eqGuardType prog.depth 232=false:=by and_intros <;> kernel_rfl
@[simp] theorem tyF246:szT prog 246=256∧(prog.info? 246).isSome=true∧aggT prog 246=some true∧arT prog 246=some (256,4,1)∧strT prog 246=false∧tbytes prog 246=some 256∧prog.concrete 246=true∧prog.eqGuardType prog.depth 246=false:=by and_intros <;> kernel_rfl
@[simp] theorem tyF299:szT prog 299=24∧(prog.info? 299).isSome=true∧aggT prog 299=some true∧arT prog 299=some (24,5,1)∧strT prog 299=false∧zcells prog 299=some [.d (.int .u8 0),.d (.int .u8 0),.d (.int .u8 0),.d (.int .u8 0),.d (.int .u8 0),.d (.int .u8 0),.d (.int .u8 0),.d (.int .u8 0),.d (.int .u8 0),.d (.int .u8 0),.d (.int .u8 0),.d (.int .u8 0),.d (.int .u8 0),.d (.int .u8 0),.d (.int .u8 0),.d (.int .u8 0),.d (.int .u8 0),.d (.int .u8 0),.d (.int .u8 0),.d (.int .u8 0),.d (.int .u8 0),.d (.int .u8 0),.d (.int .u8 0),.d (.int .u8 0)]∧tbytes prog 299=some 24∧prog.concrete 299=true∧prog.eqGuardType prog.depth 299=false:=by and_intros <;> kernel_rfl
@[simp] theorem fnF0:isFn prog 15=true∧isFn prog 23=true∧isFn prog 55=true∧isFn prog 70=true∧isFn prog 72=true∧isFn prog 74=true∧isFn prog 75=true∧isFn prog 76=true∧isFn prog 78=true∧isFn prog 79=true∧isFn prog 83=true∧isFn prog 84=true∧isFn prog 87=true∧isFn prog 88=true∧isFn prog 89=true∧isFn prog 90=true∧isFn prog 91=true∧isFn prog 92=true∧isFn prog 93=true∧isFn prog 94=true∧isFn prog 99=true∧isFn prog 130=true∧isFn prog 131=true∧isFn prog 132=true∧isFn prog 133=true:=by and_intros <;> kernel_rfl
@[simp] theorem fnF25:isFn prog 134=true∧isFn prog 140=true∧isFn prog 141=true∧isFn prog 142=true∧isFn prog 147=true∧isFn prog 148=true∧isFn prog 149=true∧isFn prog 150=true∧isFn prog 177=true∧isFn prog 178=true∧isFn prog 179=true∧isFn prog 180=true∧isFn prog 181=true∧isFn prog 184=true∧isFn prog 185=true∧isFn prog 186=true∧isFn prog 187=true∧isFn prog 196=true∧isFn prog 197=true∧isFn prog 200=true∧isFn prog 201=true∧isFn prog 202=true∧isFn prog 205=true∧isFn prog 206=true∧isFn prog 207=true:=by and_intros <;> kernel_rfl
@[simp] theorem fnF50:isFn prog 208=true∧isFn prog 209=true∧isFn prog 229=true∧isFn prog 234=true∧isFn prog 236=true∧isFn prog 238=true∧isFn prog 242=true∧isFn prog 246=true∧isFn prog 255=true∧isFn prog 256=true∧isFn prog 257=true∧isFn prog 274=true∧isFn prog 275=true∧isFn prog 276=true:=by and_intros <;> kernel_rfl
@[simp] theorem slT_27:slT prog 27=some (194,1):=by kernel_rfl
@[simp] theorem slT_28:slT prog 28=some (194,1):=by kernel_rfl
@[simp] theorem intT_123:intT prog 123=some .u64:=by kernel_rfl
@[simp] theorem szT_194:szT prog 194=1:=by kernel_rfl
@[simp] theorem infoS_194:(prog.info? 194).isSome=true:=by kernel_rfl
@[simp] theorem aggT_194:aggT prog 194=some false:=by kernel_rfl
@[simp] theorem intT_194:intT prog 194=some .u32:=by kernel_rfl
@[simp] theorem zcells_194:zcells prog 194=some [.d (.int .u32 0)]:=by kernel_rfl
@[simp] theorem tbytes_194:tbytes prog 194=some 4:=by kernel_rfl
@[simp] theorem isFn_152:isFn prog 152=true:=by kernel_rfl
@[simp] theorem isFn_211:isFn prog 211=true:=by kernel_rfl
end Go.Am.Ty
