/- Helpers: an abstract machine for Go functions, and walks of functions of the program. -/
import Derived.Test.YtlnhbjpphecakaaGreatDoorRows
import Derived.JoinedOf

set_option linter.all false
set_option maxHeartbeats 8000000
set_option maxRecDepth 100000
namespace Go.Proofs.YtlnhbjpphecakaaGreatDoor
open Go
theorem rangesKnown_c0:(Rows.rangesKnownRow.wf (OpenSpec.ofChange Rows.rangesKnownSpec))=true:=by kernel_rfl
theorem rangesKnown_c1:(laidOutB Tryz.prog)=true:=by kernel_rfl
theorem rangesKnown_c2:(mapsRowed Tryz.prog)=true:=by kernel_rfl
theorem rangesKnown_c3:(Tryz.f5.params.all (Tryz.prog.readableRec ·))=true:=by kernel_rfl
theorem rangesKnown_c4:(namedTie Tryz.prog Rows.rangesKnownRow.named Rows.rangesKnownSpec.vars)=true:=by kernel_rfl
theorem rangesKnown_c5:((Rows.rangesKnownRow.stops == []))=true:=by kernel_rfl
theorem rangesKnown_c6:((Tryz.prog.stops == []))=true:=by kernel_rfl
theorem rangesKnown_c7:((Rows.rangesKnownRow.knobs == []))=true:=by kernel_rfl
theorem rangesKnown_c8:((Tryz.prog.stopKnobs == []))=true:=by kernel_rfl
theorem rangesKnown_c9:((Rows.rangesKnownRow.inPlace == Tryz.prog.inPlace 5))=true:=by kernel_rfl
theorem rangesKnown_c10:((Rows.rangesKnownRow.unfollowed == Tryz.prog.unfollowed 5))=true:=by kernel_rfl
theorem rangesKnown_c11:((Rows.rangesKnownRow.recurses == Tryz.prog.recurses 5))=true:=by kernel_rfl
theorem rangesKnown_c12:((Rows.rangesKnownRow.named == Tryz.prog.varsNamed 5))=true:=by kernel_rfl
theorem rangesKnown_c13:((Rows.rangesKnownRow.maps == (Tryz.f5.params.toList++Rows.rangesKnownSpec.plain.varTypes Tryz.prog).any (Tryz.prog.mapsRec ·)))=true:=by kernel_rfl
theorem rangesKnown_c14:((Rows.rangesKnownRow.ifaces == (Tryz.f5.params.toList++Rows.rangesKnownSpec.plain.varTypes Tryz.prog).any (Tryz.prog.ifacesRec ·)))=true:=by kernel_rfl
theorem rangesKnown_c15:((Rows.rangesKnownRow.mapsOut == Tryz.prog.mapsAmong Tryz.f5.resultTypes.toList))=true:=by kernel_rfl
theorem rangesKnown_c16:((Rows.rangesKnownRow.loops == (Tryz.f5.params.toList++Rows.rangesKnownSpec.plain.varTypes Tryz.prog).any (Tryz.prog.loopsFrom ·)))=true:=by kernel_rfl
theorem rangesKnown_c17:((Rows.rangesKnownRow.wideKeys == (Tryz.f5.params.toList++Rows.rangesKnownSpec.plain.varTypes Tryz.prog++Tryz.f5.resultTypes.toList).any (Tryz.prog.wideKeysFrom ·)))=true:=by kernel_rfl
theorem rangesKnown_c18:(Rows.rangesKnownSpec.vars.all (Tryz.prog.varReadable ·))=true:=by kernel_rfl
theorem rangesKnown_c19:(Tryz.f5.resultTypes.all (fun t=>Tryz.prog.readableRec t && decide (t<Tryz.prog.types.size)))=true:=by kernel_rfl
theorem rangesKnown_c20:((Rows.rangesKnownRow.ifacesOut == Tryz.f5.resultTypes.toList.any (Tryz.prog.ifacesRec ·)))=true:=by kernel_rfl
theorem rangesKnown_c21:((Rows.rangesKnownRow.loopsOut == Tryz.f5.resultTypes.toList.any (Tryz.prog.loopsFrom ·)))=true:=by kernel_rfl
theorem rangesKnown_c22:((Rows.rangesKnownRow.plainKeys == Tryz.prog.plainKeys))=true:=by kernel_rfl
theorem rangesKnown_c23:(Rows.rangesKnownRow.shortTexts.isNone)=true:=by kernel_rfl
theorem rangesKnown_c24:(Tryz.prog.stopsHeard)=true:=by kernel_rfl
theorem rangesKnown_c25:(Tryz.prog.mayEnter)=true:=by kernel_rfl
theorem rangesKnown_c26:((Rows.rangesKnownRow.lifted == Tryz.prog.liftsFinal))=true:=by kernel_rfl
theorem rangesKnown_c27:((Tryz.prog.make == some Rows.rangesKnownRow.make))=true:=by kernel_rfl
theorem rangesKnown_c28:((Rows.rangesKnownRow.kinds == (if Rows.rangesKnownRow.domain.isEmpty then [] else Tryz.f5.params.toList.map fun t=>match Tryz.prog.underlying t with|some (.int k)=>some k|_=>Option.none)))=true:=by kernel_rfl
theorem rangesKnown_c29:((Rows.rangesKnownRow.pinned == Rows.rangesKnownRow.pinnedBy))=true:=by kernel_rfl
theorem rangesKnown_c30:((Rows.rangesKnownRow.veiled == (Tryz.f5.params.toList++Rows.rangesKnownSpec.plain.varTypes Tryz.prog++Tryz.f5.resultTypes.toList).any (Tryz.prog.veiledRec ·)))=true:=by kernel_rfl
theorem rangesKnown_c31:(Rows.rangesKnownRow.veiledFits Tryz.prog Tryz.f5.params.toList (Tryz.f5.params.toList++Rows.rangesKnownSpec.plain.varTypes Tryz.prog++Tryz.f5.resultTypes.toList))=true:=by kernel_rfl
end Go.Proofs.YtlnhbjpphecakaaGreatDoor
