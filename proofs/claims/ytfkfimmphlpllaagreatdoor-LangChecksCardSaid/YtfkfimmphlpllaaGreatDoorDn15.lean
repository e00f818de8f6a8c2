/- Helpers: an abstract machine for Go functions, and walks of functions of the program. -/
import Derived.Test.YtfkfimmphlpllaaGreatDoorRows
import Derived.JoinedOf

set_option linter.all false

namespace Go.Proofs.YtfkfimmphlpllaaGreatDoor
open Go
set_option maxRecDepth 100000
theorem xp:(Rows.langChecksRow.wf (OpenSpec.ofChange Rows.langChecksSpec))=true:=by kernel_rfl
theorem xA:(laidOutB Tryz.prog)=true:=by kernel_rfl
theorem xe:(mapsRowed Tryz.prog)=true:=by kernel_rfl
theorem xu:(Tryz.f8.params.all (Tryz.prog.readableRec ·))=true:=by kernel_rfl
theorem wT:(namedTie Tryz.prog Rows.langChecksRow.named Rows.langChecksSpec.vars)=true:=by kernel_rfl
theorem wV:((Rows.langChecksRow.stops == []))=true:=by kernel_rfl
theorem xd:((Tryz.prog.stops == []))=true:=by kernel_rfl
theorem wY:((Rows.langChecksRow.knobs == []))=true:=by kernel_rfl
theorem wW:((Tryz.prog.stopKnobs == []))=true:=by kernel_rfl
theorem wN:((Rows.langChecksRow.inPlace == Tryz.prog.inPlace 8))=true:=by kernel_rfl
theorem ve:((Rows.langChecksRow.unfollowed == Tryz.prog.unfollowed 8))=true:=by kernel_rfl
theorem vM:((Rows.langChecksRow.recurses == Tryz.prog.recurses 8))=true:=by kernel_rfl
theorem vX:((Rows.langChecksRow.named == Tryz.prog.varsNamed 8))=true:=by kernel_rfl
theorem vz:((Rows.langChecksRow.maps == (Tryz.f8.params.toList++Rows.langChecksSpec.plain.varTypes Tryz.prog).any (Tryz.prog.mapsRec ·)))=true:=by kernel_rfl
theorem vO:((Rows.langChecksRow.ifaces == (Tryz.f8.params.toList++Rows.langChecksSpec.plain.varTypes Tryz.prog).any (Tryz.prog.ifacesRec ·)))=true:=by kernel_rfl
theorem wz:((Rows.langChecksRow.mapsOut == Tryz.prog.mapsAmong Tryz.f8.resultTypes.toList))=true:=by kernel_rfl
theorem uT:((Rows.langChecksRow.loops == (Tryz.f8.params.toList++Rows.langChecksSpec.plain.varTypes Tryz.prog).any (Tryz.prog.loopsFrom ·)))=true:=by kernel_rfl
theorem vY:((Rows.langChecksRow.wideKeys == (Tryz.f8.params.toList++Rows.langChecksSpec.plain.varTypes Tryz.prog++Tryz.f8.resultTypes.toList).any (Tryz.prog.wideKeysFrom ·)))=true:=by kernel_rfl
theorem uJ:(Rows.langChecksSpec.vars.all (Tryz.prog.varReadable ·))=true:=by kernel_rfl
theorem vK:(Tryz.f8.resultTypes.all (fun t=>Tryz.prog.readableRec t && decide (t<Tryz.prog.types.size)))=true:=by kernel_rfl
theorem wg:((Rows.langChecksRow.ifacesOut == Tryz.f8.resultTypes.toList.any (Tryz.prog.ifacesRec ·)))=true:=by kernel_rfl
theorem v7:((Rows.langChecksRow.loopsOut == Tryz.f8.resultTypes.toList.any (Tryz.prog.loopsFrom ·)))=true:=by kernel_rfl
theorem uH:((Rows.langChecksRow.plainKeys == Tryz.prog.plainKeys))=true:=by kernel_rfl
theorem uP:(Rows.langChecksRow.shortTexts.isNone)=true:=by kernel_rfl
theorem wC:(Tryz.prog.stopsHeard)=true:=by kernel_rfl
theorem vJ:(Tryz.prog.mayEnter)=true:=by kernel_rfl
theorem vi:((Rows.langChecksRow.lifted == Tryz.prog.liftsFinal))=true:=by kernel_rfl
theorem uE:((Tryz.prog.make == some Rows.langChecksRow.make))=true:=by kernel_rfl
theorem vC:((Rows.langChecksRow.kinds == (if Rows.langChecksRow.domain.isEmpty then [] else Tryz.f8.params.toList.map fun t=>match Tryz.prog.underlying t with|some (.int k)=>some k|_=>Option.none)))=true:=by kernel_rfl
theorem uv:((Rows.langChecksRow.pinned == Rows.langChecksRow.pinnedBy))=true:=by kernel_rfl
theorem wu:((Rows.langChecksRow.veiled == (Tryz.f8.params.toList++Rows.langChecksSpec.plain.varTypes Tryz.prog++Tryz.f8.resultTypes.toList).any (Tryz.prog.veiledRec ·)))=true:=by kernel_rfl
theorem wA:(Rows.langChecksRow.veiledFits Tryz.prog Tryz.f8.params.toList (Tryz.f8.params.toList++Rows.langChecksSpec.plain.varTypes Tryz.prog++Tryz.f8.resultTypes.toList))=true:=by kernel_rfl
end Go.Proofs.YtfkfimmphlpllaaGreatDoor
