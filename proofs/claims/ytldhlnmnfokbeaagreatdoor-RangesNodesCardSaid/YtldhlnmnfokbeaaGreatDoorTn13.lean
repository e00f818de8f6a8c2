/- Helpers. -/
import Derived.Test.YtldhlnmnfokbeaaGreatDoorRows
import Derived.JoinedOf

set_option linter.all false
set_option maxHeartbeats 8000000
set_option maxRecDepth 100000
namespace Go.Proofs.YtldhlnmnfokbeaaGreatDoor
open Go
theorem Bg:(Rows.rangesNodesRow.wf (OpenSpec.ofChange Rows.rangesNodesSpec))=true:=by kernel_rfl
theorem Bb:(laidOutB Tryz.prog)=true:=by kernel_rfl
theorem AX:(mapsRowed Tryz.prog)=true:=by kernel_rfl
theorem AY:(Tryz.f3.params.all (Tryz.prog.readableRec ·))=true:=by kernel_rfl
theorem zS:(namedTie Tryz.prog Rows.rangesNodesRow.named Rows.rangesNodesSpec.vars)=true:=by kernel_rfl
theorem Af:((Rows.rangesNodesRow.stops == []))=true:=by kernel_rfl
theorem AA:((Tryz.prog.stops == []))=true:=by kernel_rfl
theorem zE:((Rows.rangesNodesRow.knobs == []))=true:=by kernel_rfl
theorem Ag:((Tryz.prog.stopKnobs == []))=true:=by kernel_rfl
theorem Ah:((Rows.rangesNodesRow.inPlace==Tryz.prog.inPlace 3))=true:=by kernel_rfl
theorem yK:((Rows.rangesNodesRow.unfollowed==Tryz.prog.unfollowed 3))=true:=by kernel_rfl
theorem yD:((Rows.rangesNodesRow.recurses==Tryz.prog.recurses 3))=true:=by kernel_rfl
theorem yw:((Rows.rangesNodesRow.named==Tryz.prog.varsNamed 3))=true:=by kernel_rfl
theorem yq:((Rows.rangesNodesRow.maps==(Tryz.f3.params.toList++Rows.rangesNodesSpec.plain.varTypes Tryz.prog).any (Tryz.prog.mapsRec ·)))=true:=by kernel_rfl
theorem ye:((Rows.rangesNodesRow.ifaces==(Tryz.f3.params.toList++Rows.rangesNodesSpec.plain.varTypes Tryz.prog).any (Tryz.prog.ifacesRec ·)))=true:=by kernel_rfl
theorem yu:((Rows.rangesNodesRow.mapsOut==Tryz.prog.mapsAmong Tryz.f3.resultTypes.toList))=true:=by kernel_rfl
theorem ya:((Rows.rangesNodesRow.loops==(Tryz.f3.params.toList++Rows.rangesNodesSpec.plain.varTypes Tryz.prog).any (Tryz.prog.loopsFrom ·)))=true:=by kernel_rfl
theorem yA:((Rows.rangesNodesRow.wideKeys==(Tryz.f3.params.toList++Rows.rangesNodesSpec.plain.varTypes Tryz.prog++Tryz.f3.resultTypes.toList).any (Tryz.prog.wideKeysFrom ·)))=true:=by kernel_rfl
theorem yS:(Rows.rangesNodesSpec.vars.all (Tryz.prog.varReadable ·))=true:=by kernel_rfl
theorem yc:(Tryz.f3.resultTypes.all (λt=>Tryz.prog.readableRec t&&decide (t<Tryz.prog.types.size)))=true:=by kernel_rfl
theorem yg:((Rows.rangesNodesRow.ifacesOut==Tryz.f3.resultTypes.toList.any (Tryz.prog.ifacesRec ·)))=true:=by kernel_rfl
theorem yE:((Rows.rangesNodesRow.loopsOut==Tryz.f3.resultTypes.toList.any (Tryz.prog.loopsFrom ·)))=true:=by kernel_rfl
theorem yx:((Rows.rangesNodesRow.plainKeys==Tryz.prog.plainKeys))=true:=by kernel_rfl
theorem yj:(Rows.rangesNodesRow.shortTexts.isNone)=true:=by kernel_rfl
theorem yJ:(Tryz.prog.stopsHeard)=true:=by kernel_rfl
theorem yR:(Tryz.prog.mayEnter)=true:=by kernel_rfl
theorem yl:((Rows.rangesNodesRow.lifted==Tryz.prog.liftsFinal))=true:=by kernel_rfl
theorem yt:((Tryz.prog.make==some Rows.rangesNodesRow.make))=true:=by kernel_rfl
theorem yF:((Rows.rangesNodesRow.kinds==(if Rows.rangesNodesRow.domain.isEmpty then[]else Tryz.f3.params.toList.map λt=>match Tryz.prog.underlying t with|some (.int k)=>some k|_=>Option.none)))=true:=by kernel_rfl
theorem yC:((Rows.rangesNodesRow.pinned==Rows.rangesNodesRow.pinnedBy))=true:=by kernel_rfl
theorem yI:((Rows.rangesNodesRow.veiled==(Tryz.f3.params.toList++Rows.rangesNodesSpec.plain.varTypes Tryz.prog++Tryz.f3.resultTypes.toList).any (Tryz.prog.veiledRec ·)))=true:=by kernel_rfl
theorem yP:(Rows.rangesNodesRow.veiledFits Tryz.prog Tryz.f3.params.toList (Tryz.f3.params.toList++Rows.rangesNodesSpec.plain.varTypes Tryz.prog++Tryz.f3.resultTypes.toList))=true:=by kernel_rfl
end Go.Proofs.YtldhlnmnfokbeaaGreatDoor
