/- Helpers. -/
import Derived.Test.YtfkfimmphlpllaaGreatDoorRows
import Derived.JoinedOf

set_option linter.all false
set_option maxHeartbeats 8000000
set_option maxRecDepth 100000
namespace Go.Proofs.YtfkfimmphlpllaaGreatDoor
open Go
theorem xY:(Rows.langUnrollsRow.wf (OpenSpec.ofChange Rows.langUnrollsSpec))=true:=by kernel_rfl
theorem yl:(laidOutB Tryz.prog)=true:=by kernel_rfl
theorem zG:(mapsRowed Tryz.prog)=true:=by kernel_rfl
theorem yK:(Tryz.f6.params.all (Tryz.prog.readableRec ·))=true:=by kernel_rfl
theorem zQ:(namedTie Tryz.prog Rows.langUnrollsRow.named Rows.langUnrollsSpec.vars)=true:=by kernel_rfl
theorem zb:((Rows.langUnrollsRow.stops == []))=true:=by kernel_rfl
theorem zA:((Tryz.prog.stops == []))=true:=by kernel_rfl
theorem xW:((Rows.langUnrollsRow.knobs == []))=true:=by kernel_rfl
theorem zl:((Tryz.prog.stopKnobs == []))=true:=by kernel_rfl
theorem yM:((Rows.langUnrollsRow.inPlace==Tryz.prog.inPlace 6))=true:=by kernel_rfl
theorem wj:((Rows.langUnrollsRow.unfollowed==Tryz.prog.unfollowed 6))=true:=by kernel_rfl
theorem wX:((Rows.langUnrollsRow.recurses==Tryz.prog.recurses 6))=true:=by kernel_rfl
theorem wZ:((Rows.langUnrollsRow.named==Tryz.prog.varsNamed 6))=true:=by kernel_rfl
theorem wG:((Rows.langUnrollsRow.maps==(Tryz.f6.params.toList++Rows.langUnrollsSpec.plain.varTypes Tryz.prog).any (Tryz.prog.mapsRec ·)))=true:=by kernel_rfl
theorem wI:((Rows.langUnrollsRow.ifaces==(Tryz.f6.params.toList++Rows.langUnrollsSpec.plain.varTypes Tryz.prog).any (Tryz.prog.ifacesRec ·)))=true:=by kernel_rfl
theorem wB:((Rows.langUnrollsRow.mapsOut==Tryz.prog.mapsAmong Tryz.f6.resultTypes.toList))=true:=by kernel_rfl
theorem wm:((Rows.langUnrollsRow.loops==(Tryz.f6.params.toList++Rows.langUnrollsSpec.plain.varTypes Tryz.prog).any (Tryz.prog.loopsFrom ·)))=true:=by kernel_rfl
theorem wJ:((Rows.langUnrollsRow.wideKeys==(Tryz.f6.params.toList++Rows.langUnrollsSpec.plain.varTypes Tryz.prog++Tryz.f6.resultTypes.toList).any (Tryz.prog.wideKeysFrom ·)))=true:=by kernel_rfl
theorem wY:(Rows.langUnrollsSpec.vars.all (Tryz.prog.varReadable ·))=true:=by kernel_rfl
theorem wq:(Tryz.f6.resultTypes.all (λt=>Tryz.prog.readableRec t&&decide (t<Tryz.prog.types.size)))=true:=by kernel_rfl
theorem xg:((Rows.langUnrollsRow.ifacesOut==Tryz.f6.resultTypes.toList.any (Tryz.prog.ifacesRec ·)))=true:=by kernel_rfl
theorem wN:((Rows.langUnrollsRow.loopsOut==Tryz.f6.resultTypes.toList.any (Tryz.prog.loopsFrom ·)))=true:=by kernel_rfl
theorem wW:((Rows.langUnrollsRow.plainKeys==Tryz.prog.plainKeys))=true:=by kernel_rfl
theorem wV:(Rows.langUnrollsRow.shortTexts.isNone)=true:=by kernel_rfl
theorem wQ:(Tryz.prog.stopsHeard)=true:=by kernel_rfl
theorem w8:(Tryz.prog.mayEnter)=true:=by kernel_rfl
theorem xb:((Rows.langUnrollsRow.lifted==Tryz.prog.liftsFinal))=true:=by kernel_rfl
theorem wz:((Tryz.prog.make==some Rows.langUnrollsRow.make))=true:=by kernel_rfl
theorem wM:((Rows.langUnrollsRow.kinds==(if Rows.langUnrollsRow.domain.isEmpty then[]else Tryz.f6.params.toList.map λt=>match Tryz.prog.underlying t with|some (.int k)=>some k|_=>Option.none)))=true:=by kernel_rfl
theorem wR:((Rows.langUnrollsRow.pinned==Rows.langUnrollsRow.pinnedBy))=true:=by kernel_rfl
theorem wE:((Rows.langUnrollsRow.veiled==(Tryz.f6.params.toList++Rows.langUnrollsSpec.plain.varTypes Tryz.prog++Tryz.f6.resultTypes.toList).any (Tryz.prog.veiledRec ·)))=true:=by kernel_rfl
theorem wo:(Rows.langUnrollsRow.veiledFits Tryz.prog Tryz.f6.params.toList (Tryz.f6.params.toList++Rows.langUnrollsSpec.plain.varTypes Tryz.prog++Tryz.f6.resultTypes.toList))=true:=by kernel_rfl
end Go.Proofs.YtfkfimmphlpllaaGreatDoor
