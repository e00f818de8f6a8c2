/- Helpers: an abstract machine for Go functions, and walks of functions of the program. -/
import Derived.Test.YtlnhbjpphecakaaGreatDoorRows
import Derived.JoinedOf

set_option linter.all false
set_option maxHeartbeats 8000000
set_option maxRecDepth 100000
namespace Go.Proofs.YtlnhbjpphecakaaGreatDoor
open Go
theorem rangesSplitsUpto_c0:(Rows.rangesSplitsUptoRow.wf (OpenSpec.ofChange ((Rows.OpenSpec.upto Rows.rangesSplitsSpec).bare)))=true:=by kernel_rfl
theorem rangesSplitsUpto_c1:(laidOutB Tryz.prog)=true:=by kernel_rfl
theorem rangesSplitsUpto_c2:(mapsRowed Tryz.prog)=true:=by kernel_rfl
theorem rangesSplitsUpto_c3:(Tryz.f4.params.all (Tryz.prog.readableRec ·))=true:=by kernel_rfl
theorem rangesSplitsUpto_c4:(namedTie Tryz.prog Rows.rangesSplitsUptoRow.named ((Rows.OpenSpec.upto Rows.rangesSplitsSpec).bare).vars)=true:=by kernel_rfl
theorem rangesSplitsUpto_c5:((Rows.rangesSplitsUptoRow.stops == []))=true:=by kernel_rfl
theorem rangesSplitsUpto_c6:((Tryz.prog.stops == []))=true:=by kernel_rfl
theorem rangesSplitsUpto_c7:((Rows.rangesSplitsUptoRow.knobs == []))=true:=by kernel_rfl
theorem rangesSplitsUpto_c8:((Tryz.prog.stopKnobs == []))=true:=by kernel_rfl
theorem rangesSplitsUpto_c9:((Rows.rangesSplitsUptoRow.inPlace == Tryz.prog.inPlace 4))=true:=by kernel_rfl
theorem rangesSplitsUpto_c10:((Rows.rangesSplitsUptoRow.unfollowed == Tryz.prog.unfollowed 4))=true:=by kernel_rfl
theorem rangesSplitsUpto_c11:((Rows.rangesSplitsUptoRow.recurses == Tryz.prog.recurses 4))=true:=by kernel_rfl
theorem rangesSplitsUpto_c12:((Rows.rangesSplitsUptoRow.named == Tryz.prog.varsNamed 4))=true:=by kernel_rfl
theorem rangesSplitsUpto_c13:((Rows.rangesSplitsUptoRow.maps == (Tryz.f4.params.toList++((Rows.OpenSpec.upto Rows.rangesSplitsSpec).bare).plain.varTypes Tryz.prog).any (Tryz.prog.mapsRec ·)))=true:=by kernel_rfl
theorem rangesSplitsUpto_c14:((Rows.rangesSplitsUptoRow.ifaces == (Tryz.f4.params.toList++((Rows.OpenSpec.upto Rows.rangesSplitsSpec).bare).plain.varTypes Tryz.prog).any (Tryz.prog.ifacesRec ·)))=true:=by kernel_rfl
theorem rangesSplitsUpto_c15:((Rows.rangesSplitsUptoRow.mapsOut == Tryz.prog.mapsAmong Tryz.f4.resultTypes.toList))=true:=by kernel_rfl
theorem rangesSplitsUpto_c16:((Rows.rangesSplitsUptoRow.loops == (Tryz.f4.params.toList++((Rows.OpenSpec.upto Rows.rangesSplitsSpec).bare).plain.varTypes Tryz.prog).any (Tryz.prog.loopsFrom ·)))=true:=by kernel_rfl
theorem rangesSplitsUpto_c17:((Rows.rangesSplitsUptoRow.wideKeys == (Tryz.f4.params.toList++((Rows.OpenSpec.upto Rows.rangesSplitsSpec).bare).plain.varTypes Tryz.prog++Tryz.f4.resultTypes.toList).any (Tryz.prog.wideKeysFrom ·)))=true:=by kernel_rfl
theorem rangesSplitsUpto_c18:(((Rows.OpenSpec.upto Rows.rangesSplitsSpec).bare).vars.all (Tryz.prog.varReadable ·))=true:=by kernel_rfl
theorem rangesSplitsUpto_c19:(Tryz.f4.resultTypes.all (fun t=>Tryz.prog.readableRec t && decide (t<Tryz.prog.types.size)))=true:=by kernel_rfl
theorem rangesSplitsUpto_c20:((Rows.rangesSplitsUptoRow.ifacesOut == Tryz.f4.resultTypes.toList.any (Tryz.prog.ifacesRec ·)))=true:=by kernel_rfl
theorem rangesSplitsUpto_c21:((Rows.rangesSplitsUptoRow.loopsOut == Tryz.f4.resultTypes.toList.any (Tryz.prog.loopsFrom ·)))=true:=by kernel_rfl
theorem rangesSplitsUpto_c22:((Rows.rangesSplitsUptoRow.plainKeys == Tryz.prog.plainKeys))=true:=by kernel_rfl
theorem rangesSplitsUpto_c23:(Rows.rangesSplitsUptoRow.shortTexts.isNone)=true:=by kernel_rfl
theorem rangesSplitsUpto_c24:(Tryz.prog.stopsHeard)=true:=by kernel_rfl
theorem rangesSplitsUpto_c25:(Tryz.prog.mayEnter)=true:=by kernel_rfl
theorem rangesSplitsUpto_c26:((Rows.rangesSplitsUptoRow.lifted == Tryz.prog.liftsFinal))=true:=by kernel_rfl
theorem rangesSplitsUpto_c27:((Tryz.prog.make == some Rows.rangesSplitsUptoRow.make))=true:=by kernel_rfl
theorem rangesSplitsUpto_c28:((Rows.rangesSplitsUptoRow.kinds == (if Rows.rangesSplitsUptoRow.domain.isEmpty then [] else Tryz.f4.params.toList.map fun t=>match Tryz.prog.underlying t with|some (.int k)=>some k|_=>Option.none)))=true:=by kernel_rfl
theorem rangesSplitsUpto_c29:((Rows.rangesSplitsUptoRow.pinned == Rows.rangesSplitsUptoRow.pinnedBy))=true:=by kernel_rfl
theorem rangesSplitsUpto_c30:((Rows.rangesSplitsUptoRow.veiled == (Tryz.f4.params.toList++((Rows.OpenSpec.upto Rows.rangesSplitsSpec).bare).plain.varTypes Tryz.prog++Tryz.f4.resultTypes.toList).any (Tryz.prog.veiledRec ·)))=true:=by kernel_rfl
theorem rangesSplitsUpto_c31:(Rows.rangesSplitsUptoRow.veiledFits Tryz.prog Tryz.f4.params.toList (Tryz.f4.params.toList++((Rows.OpenSpec.upto Rows.rangesSplitsSpec).bare).plain.varTypes Tryz.prog++Tryz.f4.resultTypes.toList))=true:=by kernel_rfl
end Go.Proofs.YtlnhbjpphecakaaGreatDoor
