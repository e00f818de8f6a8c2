/- Helpers: an abstract machine for Go functions, and walks of functions of the program. -/
import Derived.Test.YtfkfimmphlpllaaGreatDoorRows
import Derived.JoinedOf

set_option linter.all false
set_option maxHeartbeats 8000000
set_option maxRecDepth 100000
namespace Go.Proofs.YtfkfimmphlpllaaGreatDoor
open Go
theorem xw:(Rows.langChangesRow.wf (OpenSpec.ofChange Rows.langChangesSpec))=true:=by kernel_rfl
theorem yx:(laidOutB Tryz.prog)=true:=by kernel_rfl
theorem xl:(mapsRowed Tryz.prog)=true:=by kernel_rfl
theorem xL:(Tryz.f14.params.all (Tryz.prog.readableRec ·))=true:=by kernel_rfl
theorem yg:(namedTie Tryz.prog Rows.langChangesRow.named Rows.langChangesSpec.vars)=true:=by kernel_rfl
theorem xy:((Rows.langChangesRow.stops == []))=true:=by kernel_rfl
theorem xp:((Tryz.prog.stops == []))=true:=by kernel_rfl
theorem wG:((Rows.langChangesRow.knobs == []))=true:=by kernel_rfl
theorem xU:((Tryz.prog.stopKnobs == []))=true:=by kernel_rfl
theorem ya:((Rows.langChangesRow.inPlace == Tryz.prog.inPlace 14))=true:=by kernel_rfl
theorem vH:((Rows.langChangesRow.unfollowed == Tryz.prog.unfollowed 14))=true:=by kernel_rfl
theorem vA:((Rows.langChangesRow.recurses == Tryz.prog.recurses 14))=true:=by kernel_rfl
theorem u9:((Rows.langChangesRow.named == Tryz.prog.varsNamed 14))=true:=by kernel_rfl
theorem uS:((Rows.langChangesRow.maps == (Tryz.f14.params.toList++Rows.langChangesSpec.plain.varTypes Tryz.prog).any (Tryz.prog.mapsRec ·)))=true:=by kernel_rfl
theorem uT:((Rows.langChangesRow.ifaces == (Tryz.f14.params.toList++Rows.langChangesSpec.plain.varTypes Tryz.prog).any (Tryz.prog.ifacesRec ·)))=true:=by kernel_rfl
theorem vl:((Rows.langChangesRow.mapsOut == Tryz.prog.mapsAmong Tryz.f14.resultTypes.toList))=true:=by kernel_rfl
theorem ve:((Rows.langChangesRow.loops == (Tryz.f14.params.toList++Rows.langChangesSpec.plain.varTypes Tryz.prog).any (Tryz.prog.loopsFrom ·)))=true:=by kernel_rfl
theorem vv:((Rows.langChangesRow.wideKeys == (Tryz.f14.params.toList++Rows.langChangesSpec.plain.varTypes Tryz.prog++Tryz.f14.resultTypes.toList).any (Tryz.prog.wideKeysFrom ·)))=true:=by kernel_rfl
theorem vp:(Rows.langChangesSpec.vars.all (Tryz.prog.varReadable ·))=true:=by kernel_rfl
theorem uR:(Tryz.f14.resultTypes.all (fun t=>Tryz.prog.readableRec t && decide (t<Tryz.prog.types.size)))=true:=by kernel_rfl
theorem vg:((Rows.langChangesRow.ifacesOut == Tryz.f14.resultTypes.toList.any (Tryz.prog.ifacesRec ·)))=true:=by kernel_rfl
theorem vw:((Rows.langChangesRow.loopsOut == Tryz.f14.resultTypes.toList.any (Tryz.prog.loopsFrom ·)))=true:=by kernel_rfl
theorem uU:((Rows.langChangesRow.plainKeys == Tryz.prog.plainKeys))=true:=by kernel_rfl
theorem vB:(Rows.langChangesRow.shortTexts.isNone)=true:=by kernel_rfl
theorem uZ:(Tryz.prog.stopsHeard)=true:=by kernel_rfl
theorem vC:(Tryz.prog.mayEnter)=true:=by kernel_rfl
theorem uX:((Rows.langChangesRow.lifted == Tryz.prog.liftsFinal))=true:=by kernel_rfl
theorem vh:((Tryz.prog.make == some Rows.langChangesRow.make))=true:=by kernel_rfl
theorem vo:((Rows.langChangesRow.kinds == (if Rows.langChangesRow.domain.isEmpty then [] else Tryz.f14.params.toList.map fun t=>match Tryz.prog.underlying t with|some (.int k)=>some k|_=>Option.none)))=true:=by kernel_rfl
theorem vG:((Rows.langChangesRow.pinned == Rows.langChangesRow.pinnedBy))=true:=by kernel_rfl
theorem u7:((Rows.langChangesRow.veiled == (Tryz.f14.params.toList++Rows.langChangesSpec.plain.varTypes Tryz.prog++Tryz.f14.resultTypes.toList).any (Tryz.prog.veiledRec ·)))=true:=by kernel_rfl
theorem uV:(Rows.langChangesRow.veiledFits Tryz.prog Tryz.f14.params.toList (Tryz.f14.params.toList++Rows.langChangesSpec.plain.varTypes Tryz.prog++Tryz.f14.resultTypes.toList))=true:=by kernel_rfl
end Go.Proofs.YtfkfimmphlpllaaGreatDoor
