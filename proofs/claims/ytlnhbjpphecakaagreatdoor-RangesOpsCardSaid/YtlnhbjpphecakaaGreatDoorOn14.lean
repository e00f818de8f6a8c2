/- Helpers: an abstract machine for Go functions, and walks of functions of the program. -/
import Derived.Test.YtlnhbjpphecakaaGreatDoorRows
import Derived.JoinedOf

set_option linter.all false
set_option maxHeartbeats 8000000
set_option maxRecDepth 100000
namespace Go.Proofs.YtlnhbjpphecakaaGreatDoor
open Go
theorem rangesOps_c0:(Rows.rangesOpsRow.wf (OpenSpec.ofChange Rows.rangesOpsSpec))=true:=by kernel_rfl
theorem rangesOps_c1:(laidOutB Tryz.prog)=true:=by kernel_rfl
theorem rangesOps_c2:(mapsRowed Tryz.prog)=true:=by kernel_rfl
theorem rangesOps_c3:(Tryz.f3.params.all (Tryz.prog.readableRec ·))=true:=by kernel_rfl
theorem rangesOps_c4:(namedTie Tryz.prog Rows.rangesOpsRow.named Rows.rangesOpsSpec.vars)=true:=by kernel_rfl
theorem rangesOps_c5:((Rows.rangesOpsRow.stops == []))=true:=by kernel_rfl
theorem rangesOps_c6:((Tryz.prog.stops == []))=true:=by kernel_rfl
theorem rangesOps_c7:((Rows.rangesOpsRow.knobs == []))=true:=by kernel_rfl
theorem rangesOps_c8:((Tryz.prog.stopKnobs == []))=true:=by kernel_rfl
theorem rangesOps_c9:((Rows.rangesOpsRow.inPlace == Tryz.prog.inPlace 3))=true:=by kernel_rfl
theorem rangesOps_c10:((Rows.rangesOpsRow.unfollowed == Tryz.prog.unfollowed 3))=true:=by kernel_rfl
theorem rangesOps_c11:((Rows.rangesOpsRow.recurses == Tryz.prog.recurses 3))=true:=by kernel_rfl
theorem rangesOps_c12:((Rows.rangesOpsRow.named == Tryz.prog.varsNamed 3))=true:=by kernel_rfl
theorem rangesOps_c13:((Rows.rangesOpsRow.maps == (Tryz.f3.params.toList++Rows.rangesOpsSpec.plain.varTypes Tryz.prog).any (Tryz.prog.mapsRec ·)))=true:=by kernel_rfl
theorem rangesOps_c14:((Rows.rangesOpsRow.ifaces == (Tryz.f3.params.toList++Rows.rangesOpsSpec.plain.varTypes Tryz.prog).any (Tryz.prog.ifacesRec ·)))=true:=by kernel_rfl
theorem rangesOps_c15:((Rows.rangesOpsRow.mapsOut == Tryz.prog.mapsAmong Tryz.f3.resultTypes.toList))=true:=by kernel_rfl
theorem rangesOps_c16:((Rows.rangesOpsRow.loops == (Tryz.f3.params.toList++Rows.rangesOpsSpec.plain.varTypes Tryz.prog).any (Tryz.prog.loopsFrom ·)))=true:=by kernel_rfl
theorem rangesOps_c17:((Rows.rangesOpsRow.wideKeys == (Tryz.f3.params.toList++Rows.rangesOpsSpec.plain.varTypes Tryz.prog++Tryz.f3.resultTypes.toList).any (Tryz.prog.wideKeysFrom ·)))=true:=by kernel_rfl
theorem rangesOps_c18:(Rows.rangesOpsSpec.vars.all (Tryz.prog.varReadable ·))=true:=by kernel_rfl
theorem rangesOps_c19:(Tryz.f3.resultTypes.all (fun t=>Tryz.prog.readableRec t && decide (t<Tryz.prog.types.size)))=true:=by kernel_rfl
theorem rangesOps_c20:((Rows.rangesOpsRow.ifacesOut == Tryz.f3.resultTypes.toList.any (Tryz.prog.ifacesRec ·)))=true:=by kernel_rfl
theorem rangesOps_c21:((Rows.rangesOpsRow.loopsOut == Tryz.f3.resultTypes.toList.any (Tryz.prog.loopsFrom ·)))=true:=by kernel_rfl
theorem rangesOps_c22:((Rows.rangesOpsRow.plainKeys == Tryz.prog.plainKeys))=true:=by kernel_rfl
theorem rangesOps_c23:(Rows.rangesOpsRow.shortTexts.isNone)=true:=by kernel_rfl
theorem rangesOps_c24:(Tryz.prog.stopsHeard)=true:=by kernel_rfl
theorem rangesOps_c25:(Tryz.prog.mayEnter)=true:=by kernel_rfl
theorem rangesOps_c26:((Rows.rangesOpsRow.lifted == Tryz.prog.liftsFinal))=true:=by kernel_rfl
theorem rangesOps_c27:((Tryz.prog.make == some Rows.rangesOpsRow.make))=true:=by kernel_rfl
theorem rangesOps_c28:((Rows.rangesOpsRow.kinds == (if Rows.rangesOpsRow.domain.isEmpty then [] else Tryz.f3.params.toList.map fun t=>match Tryz.prog.underlying t with|some (.int k)=>some k|_=>Option.none)))=true:=by kernel_rfl
theorem rangesOps_c29:((Rows.rangesOpsRow.pinned == Rows.rangesOpsRow.pinnedBy))=true:=by kernel_rfl
theorem rangesOps_c30:((Rows.rangesOpsRow.veiled == (Tryz.f3.params.toList++Rows.rangesOpsSpec.plain.varTypes Tryz.prog++Tryz.f3.resultTypes.toList).any (Tryz.prog.veiledRec ·)))=true:=by kernel_rfl
theorem rangesOps_c31:(Rows.rangesOpsRow.veiledFits Tryz.prog Tryz.f3.params.toList (Tryz.f3.params.toList++Rows.rangesOpsSpec.plain.varTypes Tryz.prog++Tryz.f3.resultTypes.toList))=true:=by kernel_rfl
end Go.Proofs.YtlnhbjpphecakaaGreatDoor
