/- Helpers: an abstract machine for Go functions, and walks of functions of the program. -/
import Derived.Test.YtanjfmmjpnjkbaaGreatDoorRows
import Derived.JoinedOf

set_option linter.all false
set_option maxHeartbeats 8000000
set_option maxRecDepth 100000
namespace Go.Proofs.YtanjfmmjpnjkbaaGreatDoor
open Go
theorem rangesValuesUpto_c0:(Rows.rangesValuesUptoRow.wf (OpenSpec.ofChange ((Rows.OpenSpec.upto Rows.rangesValuesSpec).bare)))=true:=by kernel_rfl
theorem rangesValuesUpto_c1:(laidOutB Tryz.prog)=true:=by kernel_rfl
theorem rangesValuesUpto_c2:(mapsRowed Tryz.prog)=true:=by kernel_rfl
theorem rangesValuesUpto_c3:(Tryz.f5.params.all (Tryz.prog.readableRec ·))=true:=by kernel_rfl
theorem rangesValuesUpto_c4:(namedTie Tryz.prog Rows.rangesValuesUptoRow.named ((Rows.OpenSpec.upto Rows.rangesValuesSpec).bare).vars)=true:=by kernel_rfl
theorem rangesValuesUpto_c5:((Rows.rangesValuesUptoRow.stops == []))=true:=by kernel_rfl
theorem rangesValuesUpto_c6:((Tryz.prog.stops == []))=true:=by kernel_rfl
theorem rangesValuesUpto_c7:((Rows.rangesValuesUptoRow.knobs == []))=true:=by kernel_rfl
theorem rangesValuesUpto_c8:((Tryz.prog.stopKnobs == []))=true:=by kernel_rfl
theorem rangesValuesUpto_c9:((Rows.rangesValuesUptoRow.inPlace == Tryz.prog.inPlace 5))=true:=by kernel_rfl
theorem rangesValuesUpto_c10:((Rows.rangesValuesUptoRow.unfollowed == Tryz.prog.unfollowed 5))=true:=by kernel_rfl
theorem rangesValuesUpto_c11:((Rows.rangesValuesUptoRow.recurses == Tryz.prog.recurses 5))=true:=by kernel_rfl
theorem rangesValuesUpto_c12:((Rows.rangesValuesUptoRow.named == Tryz.prog.varsNamed 5))=true:=by kernel_rfl
theorem rangesValuesUpto_c13:((Rows.rangesValuesUptoRow.maps == (Tryz.f5.params.toList++((Rows.OpenSpec.upto Rows.rangesValuesSpec).bare).plain.varTypes Tryz.prog).any (Tryz.prog.mapsRec ·)))=true:=by kernel_rfl
theorem rangesValuesUpto_c14:((Rows.rangesValuesUptoRow.ifaces == (Tryz.f5.params.toList++((Rows.OpenSpec.upto Rows.rangesValuesSpec).bare).plain.varTypes Tryz.prog).any (Tryz.prog.ifacesRec ·)))=true:=by kernel_rfl
theorem rangesValuesUpto_c15:((Rows.rangesValuesUptoRow.mapsOut == Tryz.prog.mapsAmong Tryz.f5.resultTypes.toList))=true:=by kernel_rfl
theorem rangesValuesUpto_c16:((Rows.rangesValuesUptoRow.loops == (Tryz.f5.params.toList++((Rows.OpenSpec.upto Rows.rangesValuesSpec).bare).plain.varTypes Tryz.prog).any (Tryz.prog.loopsFrom ·)))=true:=by kernel_rfl
theorem rangesValuesUpto_c17:((Rows.rangesValuesUptoRow.wideKeys == (Tryz.f5.params.toList++((Rows.OpenSpec.upto Rows.rangesValuesSpec).bare).plain.varTypes Tryz.prog++Tryz.f5.resultTypes.toList).any (Tryz.prog.wideKeysFrom ·)))=true:=by kernel_rfl
theorem rangesValuesUpto_c18:(((Rows.OpenSpec.upto Rows.rangesValuesSpec).bare).vars.all (Tryz.prog.varReadable ·))=true:=by kernel_rfl
theorem rangesValuesUpto_c19:(Tryz.f5.resultTypes.all (fun t=>Tryz.prog.readableRec t && decide (t<Tryz.prog.types.size)))=true:=by kernel_rfl
theorem rangesValuesUpto_c20:((Rows.rangesValuesUptoRow.ifacesOut == Tryz.f5.resultTypes.toList.any (Tryz.prog.ifacesRec ·)))=true:=by kernel_rfl
theorem rangesValuesUpto_c21:((Rows.rangesValuesUptoRow.loopsOut == Tryz.f5.resultTypes.toList.any (Tryz.prog.loopsFrom ·)))=true:=by kernel_rfl
theorem rangesValuesUpto_c22:((Rows.rangesValuesUptoRow.plainKeys == Tryz.prog.plainKeys))=true:=by kernel_rfl
theorem rangesValuesUpto_c23:(Rows.rangesValuesUptoRow.shortTexts.isNone)=true:=by kernel_rfl
theorem rangesValuesUpto_c24:(Tryz.prog.stopsHeard)=true:=by kernel_rfl
theorem rangesValuesUpto_c25:(Tryz.prog.mayEnter)=true:=by kernel_rfl
theorem rangesValuesUpto_c26:((Rows.rangesValuesUptoRow.lifted == Tryz.prog.liftsFinal))=true:=by kernel_rfl
theorem rangesValuesUpto_c27:((Tryz.prog.make == some Rows.rangesValuesUptoRow.make))=true:=by kernel_rfl
theorem rangesValuesUpto_c28:((Rows.rangesValuesUptoRow.kinds == (if Rows.rangesValuesUptoRow.domain.isEmpty then [] else Tryz.f5.params.toList.map fun t=>match Tryz.prog.underlying t with|some (.int k)=>some k|_=>Option.none)))=true:=by kernel_rfl
theorem rangesValuesUpto_c29:((Rows.rangesValuesUptoRow.pinned == Rows.rangesValuesUptoRow.pinnedBy))=true:=by kernel_rfl
theorem rangesValuesUpto_c30:((Rows.rangesValuesUptoRow.veiled == (Tryz.f5.params.toList++((Rows.OpenSpec.upto Rows.rangesValuesSpec).bare).plain.varTypes Tryz.prog++Tryz.f5.resultTypes.toList).any (Tryz.prog.veiledRec ·)))=true:=by kernel_rfl
theorem rangesValuesUpto_c31:(Rows.rangesValuesUptoRow.veiledFits Tryz.prog Tryz.f5.params.toList (Tryz.f5.params.toList++((Rows.OpenSpec.upto Rows.rangesValuesSpec).bare).plain.varTypes Tryz.prog++Tryz.f5.resultTypes.toList))=true:=by kernel_rfl
end Go.Proofs.YtanjfmmjpnjkbaaGreatDoor
