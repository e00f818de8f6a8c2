/- Helpers: an abstract machine for Go functions, and walks of functions of the program. -/
import Derived.Test.YtanjfmmjpnjkbaaGreatDoorRows
import Derived.JoinedOf

set_option linter.all false
set_option maxHeartbeats 8000000
set_option maxRecDepth 100000
namespace Go.Proofs.YtanjfmmjpnjkbaaGreatDoor
open Go
theorem sH:(Rows.rangesPolysUptoRow.wf (OpenSpec.ofChange ((Rows.OpenSpec.upto Rows.rangesPolysSpec).bare)))=true:=by kernel_rfl
theorem rQ:(laidOutB Tryz.prog)=true:=by kernel_rfl
theorem rU:(mapsRowed Tryz.prog)=true:=by kernel_rfl
theorem sF:(Tryz.f4.params.all (Tryz.prog.readableRec ·))=true:=by kernel_rfl
theorem sC:(namedTie Tryz.prog Rows.rangesPolysUptoRow.named ((Rows.OpenSpec.upto Rows.rangesPolysSpec).bare).vars)=true:=by kernel_rfl
theorem su:((Rows.rangesPolysUptoRow.stops == []))=true:=by kernel_rfl
theorem rR:((Tryz.prog.stops == []))=true:=by kernel_rfl
theorem sM:((Rows.rangesPolysUptoRow.knobs == []))=true:=by kernel_rfl
theorem sL:((Tryz.prog.stopKnobs == []))=true:=by kernel_rfl
theorem r6:((Rows.rangesPolysUptoRow.inPlace == Tryz.prog.inPlace 4))=true:=by kernel_rfl
theorem qD:((Rows.rangesPolysUptoRow.unfollowed == Tryz.prog.unfollowed 4))=true:=by kernel_rfl
theorem qE:((Rows.rangesPolysUptoRow.recurses == Tryz.prog.recurses 4))=true:=by kernel_rfl
theorem qJ:((Rows.rangesPolysUptoRow.named == Tryz.prog.varsNamed 4))=true:=by kernel_rfl
theorem ry:((Rows.rangesPolysUptoRow.maps == (Tryz.f4.params.toList++((Rows.OpenSpec.upto Rows.rangesPolysSpec).bare).plain.varTypes Tryz.prog).any (Tryz.prog.mapsRec ·)))=true:=by kernel_rfl
theorem qV:((Rows.rangesPolysUptoRow.ifaces == (Tryz.f4.params.toList++((Rows.OpenSpec.upto Rows.rangesPolysSpec).bare).plain.varTypes Tryz.prog).any (Tryz.prog.ifacesRec ·)))=true:=by kernel_rfl
theorem qC:((Rows.rangesPolysUptoRow.mapsOut == Tryz.prog.mapsAmong Tryz.f4.resultTypes.toList))=true:=by kernel_rfl
theorem qR:((Rows.rangesPolysUptoRow.loops == (Tryz.f4.params.toList++((Rows.OpenSpec.upto Rows.rangesPolysSpec).bare).plain.varTypes Tryz.prog).any (Tryz.prog.loopsFrom ·)))=true:=by kernel_rfl
theorem qX:((Rows.rangesPolysUptoRow.wideKeys == (Tryz.f4.params.toList++((Rows.OpenSpec.upto Rows.rangesPolysSpec).bare).plain.varTypes Tryz.prog++Tryz.f4.resultTypes.toList).any (Tryz.prog.wideKeysFrom ·)))=true:=by kernel_rfl
theorem qM:(((Rows.OpenSpec.upto Rows.rangesPolysSpec).bare).vars.all (Tryz.prog.varReadable ·))=true:=by kernel_rfl
theorem qH:(Tryz.f4.resultTypes.all (λt=>Tryz.prog.readableRec t&&decide (t<Tryz.prog.types.size)))=true:=by kernel_rfl
theorem qO:((Rows.rangesPolysUptoRow.ifacesOut == Tryz.f4.resultTypes.toList.any (Tryz.prog.ifacesRec ·)))=true:=by kernel_rfl
theorem rE:((Rows.rangesPolysUptoRow.loopsOut == Tryz.f4.resultTypes.toList.any (Tryz.prog.loopsFrom ·)))=true:=by kernel_rfl
theorem ri:((Rows.rangesPolysUptoRow.plainKeys == Tryz.prog.plainKeys))=true:=by kernel_rfl
theorem qA:(Rows.rangesPolysUptoRow.shortTexts.isNone)=true:=by kernel_rfl
theorem qT:(Tryz.prog.stopsHeard)=true:=by kernel_rfl
theorem qQ:(Tryz.prog.mayEnter)=true:=by kernel_rfl
theorem rz:((Rows.rangesPolysUptoRow.lifted == Tryz.prog.liftsFinal))=true:=by kernel_rfl
theorem qW:((Tryz.prog.make == some Rows.rangesPolysUptoRow.make))=true:=by kernel_rfl
theorem qI:((Rows.rangesPolysUptoRow.kinds == (if Rows.rangesPolysUptoRow.domain.isEmpty then[]else Tryz.f4.params.toList.map λt=>match Tryz.prog.underlying t with|some (.int k)=>some k|_=>Option.none)))=true:=by kernel_rfl
theorem qU:((Rows.rangesPolysUptoRow.pinned == Rows.rangesPolysUptoRow.pinnedBy))=true:=by kernel_rfl
theorem qN:((Rows.rangesPolysUptoRow.veiled == (Tryz.f4.params.toList++((Rows.OpenSpec.upto Rows.rangesPolysSpec).bare).plain.varTypes Tryz.prog++Tryz.f4.resultTypes.toList).any (Tryz.prog.veiledRec ·)))=true:=by kernel_rfl
theorem qL:(Rows.rangesPolysUptoRow.veiledFits Tryz.prog Tryz.f4.params.toList (Tryz.f4.params.toList++((Rows.OpenSpec.upto Rows.rangesPolysSpec).bare).plain.varTypes Tryz.prog++Tryz.f4.resultTypes.toList))=true:=by kernel_rfl
end Go.Proofs.YtanjfmmjpnjkbaaGreatDoor
