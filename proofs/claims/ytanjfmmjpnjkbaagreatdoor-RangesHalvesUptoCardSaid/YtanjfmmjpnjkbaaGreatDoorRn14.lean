/- Helpers: an abstract machine for Go functions, and walks of functions of the program. -/
import Derived.Test.YtanjfmmjpnjkbaaGreatDoorRows
import Derived.JoinedOf

set_option linter.all false
set_option maxHeartbeats 8000000
set_option maxRecDepth 100000
namespace Go.Proofs.YtanjfmmjpnjkbaaGreatDoor
open Go
theorem rangesHalvesUpto_c0:(Rows.rangesHalvesUptoRow.wf (OpenSpec.ofChange ((Rows.OpenSpec.upto Rows.rangesHalvesSpec).bare)))=true:=by kernel_rfl
theorem rangesHalvesUpto_c1:(laidOutB Tryz.prog)=true:=by kernel_rfl
theorem rangesHalvesUpto_c2:(mapsRowed Tryz.prog)=true:=by kernel_rfl
theorem rangesHalvesUpto_c3:(Tryz.f3.params.all (Tryz.prog.readableRec ·))=true:=by kernel_rfl
theorem rangesHalvesUpto_c4:(namedTie Tryz.prog Rows.rangesHalvesUptoRow.named ((Rows.OpenSpec.upto Rows.rangesHalvesSpec).bare).vars)=true:=by kernel_rfl
theorem rangesHalvesUpto_c5:((Rows.rangesHalvesUptoRow.stops == []))=true:=by kernel_rfl
theorem rangesHalvesUpto_c6:((Tryz.prog.stops == []))=true:=by kernel_rfl
theorem rangesHalvesUpto_c7:((Rows.rangesHalvesUptoRow.knobs == []))=true:=by kernel_rfl
theorem rangesHalvesUpto_c8:((Tryz.prog.stopKnobs == []))=true:=by kernel_rfl
theorem rangesHalvesUpto_c9:((Rows.rangesHalvesUptoRow.inPlace == Tryz.prog.inPlace 3))=true:=by kernel_rfl
theorem rangesHalvesUpto_c10:((Rows.rangesHalvesUptoRow.unfollowed == Tryz.prog.unfollowed 3))=true:=by kernel_rfl
theorem rangesHalvesUpto_c11:((Rows.rangesHalvesUptoRow.recurses == Tryz.prog.recurses 3))=true:=by kernel_rfl
theorem rangesHalvesUpto_c12:((Rows.rangesHalvesUptoRow.named == Tryz.prog.varsNamed 3))=true:=by kernel_rfl
theorem rangesHalvesUpto_c13:((Rows.rangesHalvesUptoRow.maps == (Tryz.f3.params.toList++((Rows.OpenSpec.upto Rows.rangesHalvesSpec).bare).plain.varTypes Tryz.prog).any (Tryz.prog.mapsRec ·)))=true:=by kernel_rfl
theorem rangesHalvesUpto_c14:((Rows.rangesHalvesUptoRow.ifaces == (Tryz.f3.params.toList++((Rows.OpenSpec.upto Rows.rangesHalvesSpec).bare).plain.varTypes Tryz.prog).any (Tryz.prog.ifacesRec ·)))=true:=by kernel_rfl
theorem rangesHalvesUpto_c15:((Rows.rangesHalvesUptoRow.mapsOut == Tryz.prog.mapsAmong Tryz.f3.resultTypes.toList))=true:=by kernel_rfl
theorem rangesHalvesUpto_c16:((Rows.rangesHalvesUptoRow.loops == (Tryz.f3.params.toList++((Rows.OpenSpec.upto Rows.rangesHalvesSpec).bare).plain.varTypes Tryz.prog).any (Tryz.prog.loopsFrom ·)))=true:=by kernel_rfl
theorem rangesHalvesUpto_c17:((Rows.rangesHalvesUptoRow.wideKeys == (Tryz.f3.params.toList++((Rows.OpenSpec.upto Rows.rangesHalvesSpec).bare).plain.varTypes Tryz.prog++Tryz.f3.resultTypes.toList).any (Tryz.prog.wideKeysFrom ·)))=true:=by kernel_rfl
theorem rangesHalvesUpto_c18:(((Rows.OpenSpec.upto Rows.rangesHalvesSpec).bare).vars.all (Tryz.prog.varReadable ·))=true:=by kernel_rfl
theorem rangesHalvesUpto_c19:(Tryz.f3.resultTypes.all (fun t=>Tryz.prog.readableRec t && decide (t<Tryz.prog.types.size)))=true:=by kernel_rfl
theorem rangesHalvesUpto_c20:((Rows.rangesHalvesUptoRow.ifacesOut == Tryz.f3.resultTypes.toList.any (Tryz.prog.ifacesRec ·)))=true:=by kernel_rfl
theorem rangesHalvesUpto_c21:((Rows.rangesHalvesUptoRow.loopsOut == Tryz.f3.resultTypes.toList.any (Tryz.prog.loopsFrom ·)))=true:=by kernel_rfl
theorem rangesHalvesUpto_c22:((Rows.rangesHalvesUptoRow.plainKeys == Tryz.prog.plainKeys))=true:=by kernel_rfl
theorem rangesHalvesUpto_c23:(Rows.rangesHalvesUptoRow.shortTexts.isNone)=true:=by kernel_rfl
theorem rangesHalvesUpto_c24:(Tryz.prog.stopsHeard)=true:=by kernel_rfl
theorem rangesHalvesUpto_c25:(Tryz.prog.mayEnter)=true:=by kernel_rfl
theorem rangesHalvesUpto_c26:((Rows.rangesHalvesUptoRow.lifted == Tryz.prog.liftsFinal))=true:=by kernel_rfl
theorem rangesHalvesUpto_c27:((Tryz.prog.make == some Rows.rangesHalvesUptoRow.make))=true:=by kernel_rfl
theorem rangesHalvesUpto_c28:((Rows.rangesHalvesUptoRow.kinds == (if Rows.rangesHalvesUptoRow.domain.isEmpty then [] else Tryz.f3.params.toList.map fun t=>match Tryz.prog.underlying t with|some (.int k)=>some k|_=>Option.none)))=true:=by kernel_rfl
theorem rangesHalvesUpto_c29:((Rows.rangesHalvesUptoRow.pinned == Rows.rangesHalvesUptoRow.pinnedBy))=true:=by kernel_rfl
theorem rangesHalvesUpto_c30:((Rows.rangesHalvesUptoRow.veiled == (Tryz.f3.params.toList++((Rows.OpenSpec.upto Rows.rangesHalvesSpec).bare).plain.varTypes Tryz.prog++Tryz.f3.resultTypes.toList).any (Tryz.prog.veiledRec ·)))=true:=by kernel_rfl
theorem rangesHalvesUpto_c31:(Rows.rangesHalvesUptoRow.veiledFits Tryz.prog Tryz.f3.params.toList (Tryz.f3.params.toList++((Rows.OpenSpec.upto Rows.rangesHalvesSpec).bare).plain.varTypes Tryz.prog++Tryz.f3.resultTypes.toList))=true:=by kernel_rfl
end Go.Proofs.YtanjfmmjpnjkbaaGreatDoor
