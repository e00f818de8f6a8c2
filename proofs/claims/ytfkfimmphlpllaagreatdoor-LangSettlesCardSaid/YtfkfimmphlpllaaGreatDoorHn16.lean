/- Helpers: an abstract machine for Go functions, and walks of functions of the program. -/
import Derived.Test.YtfkfimmphlpllaaGreatDoorRows
import Derived.JoinedOf

set_option linter.all false
set_option maxHeartbeats 8000000
set_option maxRecDepth 100000
namespace Go.Proofs.YtfkfimmphlpllaaGreatDoor
open Go
theorem yL:(Rows.langSettlesRow.wf (OpenSpec.ofChange Rows.langSettlesSpec))=true:=by kernel_rfl
theorem xo:(laidOutB Tryz.prog)=true:=by kernel_rfl
theorem xp:(mapsRowed Tryz.prog)=true:=by kernel_rfl
theorem xg:(Tryz.f13.params.all (Tryz.prog.readableRec ·))=true:=by kernel_rfl
theorem yX:(namedTie Tryz.prog Rows.langSettlesRow.named Rows.langSettlesSpec.vars)=true:=by kernel_rfl
theorem xU:((Rows.langSettlesRow.stops == []))=true:=by kernel_rfl
theorem zf:((Tryz.prog.stops == []))=true:=by kernel_rfl
theorem w8:((Rows.langSettlesRow.knobs == []))=true:=by kernel_rfl
theorem yu:((Tryz.prog.stopKnobs == []))=true:=by kernel_rfl
theorem ye:((Rows.langSettlesRow.inPlace == Tryz.prog.inPlace 13))=true:=by kernel_rfl
theorem vK:((Rows.langSettlesRow.unfollowed == Tryz.prog.unfollowed 13))=true:=by kernel_rfl
theorem vT:((Rows.langSettlesRow.recurses == Tryz.prog.recurses 13))=true:=by kernel_rfl
theorem vI:((Rows.langSettlesRow.named == Tryz.prog.varsNamed 13))=true:=by kernel_rfl
theorem vD:((Rows.langSettlesRow.maps == (Tryz.f13.params.toList++Rows.langSettlesSpec.plain.varTypes Tryz.prog).any (Tryz.prog.mapsRec ·)))=true:=by kernel_rfl
theorem vS:((Rows.langSettlesRow.ifaces == (Tryz.f13.params.toList++Rows.langSettlesSpec.plain.varTypes Tryz.prog).any (Tryz.prog.ifacesRec ·)))=true:=by kernel_rfl
theorem wg:((Rows.langSettlesRow.mapsOut == Tryz.prog.mapsAmong Tryz.f13.resultTypes.toList))=true:=by kernel_rfl
theorem vM:((Rows.langSettlesRow.loops == (Tryz.f13.params.toList++Rows.langSettlesSpec.plain.varTypes Tryz.prog).any (Tryz.prog.loopsFrom ·)))=true:=by kernel_rfl
theorem wh:((Rows.langSettlesRow.wideKeys == (Tryz.f13.params.toList++Rows.langSettlesSpec.plain.varTypes Tryz.prog++Tryz.f13.resultTypes.toList).any (Tryz.prog.wideKeysFrom ·)))=true:=by kernel_rfl
theorem vC:(Rows.langSettlesSpec.vars.all (Tryz.prog.varReadable ·))=true:=by kernel_rfl
theorem vP:(Tryz.f13.resultTypes.all (fun t=>Tryz.prog.readableRec t && decide (t<Tryz.prog.types.size)))=true:=by kernel_rfl
theorem v7:((Rows.langSettlesRow.ifacesOut == Tryz.f13.resultTypes.toList.any (Tryz.prog.ifacesRec ·)))=true:=by kernel_rfl
theorem we:((Rows.langSettlesRow.loopsOut == Tryz.f13.resultTypes.toList.any (Tryz.prog.loopsFrom ·)))=true:=by kernel_rfl
theorem v8:((Rows.langSettlesRow.plainKeys == Tryz.prog.plainKeys))=true:=by kernel_rfl
theorem vY:(Rows.langSettlesRow.shortTexts.isNone)=true:=by kernel_rfl
theorem vH:(Tryz.prog.stopsHeard)=true:=by kernel_rfl
theorem vJ:(Tryz.prog.mayEnter)=true:=by kernel_rfl
theorem vA:((Rows.langSettlesRow.lifted == Tryz.prog.liftsFinal))=true:=by kernel_rfl
theorem wk:((Tryz.prog.make == some Rows.langSettlesRow.make))=true:=by kernel_rfl
theorem vG:((Rows.langSettlesRow.kinds == (if Rows.langSettlesRow.domain.isEmpty then [] else Tryz.f13.params.toList.map fun t=>match Tryz.prog.underlying t with|some (.int k)=>some k|_=>Option.none)))=true:=by kernel_rfl
theorem vW:((Rows.langSettlesRow.pinned == Rows.langSettlesRow.pinnedBy))=true:=by kernel_rfl
theorem wj:((Rows.langSettlesRow.veiled == (Tryz.f13.params.toList++Rows.langSettlesSpec.plain.varTypes Tryz.prog++Tryz.f13.resultTypes.toList).any (Tryz.prog.veiledRec ·)))=true:=by kernel_rfl
theorem wo:(Rows.langSettlesRow.veiledFits Tryz.prog Tryz.f13.params.toList (Tryz.f13.params.toList++Rows.langSettlesSpec.plain.varTypes Tryz.prog++Tryz.f13.resultTypes.toList))=true:=by kernel_rfl
end Go.Proofs.YtfkfimmphlpllaaGreatDoor
