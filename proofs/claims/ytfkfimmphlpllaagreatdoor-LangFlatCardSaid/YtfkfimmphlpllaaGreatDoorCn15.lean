/- Helpers: an abstract machine for Go functions, and walks of functions of the program. -/
import Derived.Test.YtfkfimmphlpllaaGreatDoorRows
import Derived.JoinedOf

set_option linter.all false

namespace Go.Proofs.YtfkfimmphlpllaaGreatDoor
open Go
set_option maxRecDepth 100000
theorem AB:(Rows.langFlatRow.wf (OpenSpec.ofChange Rows.langFlatSpec))=true:=by kernel_rfl
theorem Aw:(laidOutB Tryz.prog)=true:=by kernel_rfl
theorem Bk:(mapsRowed Tryz.prog)=true:=by kernel_rfl
theorem zZ:(Tryz.f11.params.all (Tryz.prog.readableRec ·))=true:=by kernel_rfl
theorem Bd:(namedTie Tryz.prog Rows.langFlatRow.named Rows.langFlatSpec.vars)=true:=by kernel_rfl
theorem Ay:((Rows.langFlatRow.stops == []))=true:=by kernel_rfl
theorem Bi:((Tryz.prog.stops == []))=true:=by kernel_rfl
theorem An:((Rows.langFlatRow.knobs == []))=true:=by kernel_rfl
theorem Ar:((Tryz.prog.stopKnobs == []))=true:=by kernel_rfl
theorem Bu:((Rows.langFlatRow.inPlace == Tryz.prog.inPlace 11))=true:=by kernel_rfl
theorem yV:((Rows.langFlatRow.unfollowed == Tryz.prog.unfollowed 11))=true:=by kernel_rfl
theorem xZ:((Rows.langFlatRow.recurses == Tryz.prog.recurses 11))=true:=by kernel_rfl
theorem yp:((Rows.langFlatRow.named == Tryz.prog.varsNamed 11))=true:=by kernel_rfl
theorem xN:((Rows.langFlatRow.maps == (Tryz.f11.params.toList++Rows.langFlatSpec.plain.varTypes Tryz.prog).any (Tryz.prog.mapsRec ·)))=true:=by kernel_rfl
theorem yC:((Rows.langFlatRow.ifaces == (Tryz.f11.params.toList++Rows.langFlatSpec.plain.varTypes Tryz.prog).any (Tryz.prog.ifacesRec ·)))=true:=by kernel_rfl
theorem xJ:((Rows.langFlatRow.mapsOut == Tryz.prog.mapsAmong Tryz.f11.resultTypes.toList))=true:=by kernel_rfl
theorem yX:((Rows.langFlatRow.loops == (Tryz.f11.params.toList++Rows.langFlatSpec.plain.varTypes Tryz.prog).any (Tryz.prog.loopsFrom ·)))=true:=by kernel_rfl
theorem y7:((Rows.langFlatRow.wideKeys == (Tryz.f11.params.toList++Rows.langFlatSpec.plain.varTypes Tryz.prog++Tryz.f11.resultTypes.toList).any (Tryz.prog.wideKeysFrom ·)))=true:=by kernel_rfl
theorem yO:(Rows.langFlatSpec.vars.all (Tryz.prog.varReadable ·))=true:=by kernel_rfl
theorem zi:(Tryz.f11.resultTypes.all (fun t=>Tryz.prog.readableRec t && decide (t<Tryz.prog.types.size)))=true:=by kernel_rfl
theorem yy:((Rows.langFlatRow.ifacesOut == Tryz.f11.resultTypes.toList.any (Tryz.prog.ifacesRec ·)))=true:=by kernel_rfl
theorem x8:((Rows.langFlatRow.loopsOut == Tryz.f11.resultTypes.toList.any (Tryz.prog.loopsFrom ·)))=true:=by kernel_rfl
theorem zh:((Rows.langFlatRow.plainKeys == Tryz.prog.plainKeys))=true:=by kernel_rfl
theorem yW:(Rows.langFlatRow.shortTexts.isNone)=true:=by kernel_rfl
theorem zx:(Tryz.prog.stopsHeard)=true:=by kernel_rfl
theorem y4:(Tryz.prog.mayEnter)=true:=by kernel_rfl
theorem yt:((Rows.langFlatRow.lifted == Tryz.prog.liftsFinal))=true:=by kernel_rfl
theorem yB:((Tryz.prog.make == some Rows.langFlatRow.make))=true:=by kernel_rfl
theorem yQ:((Rows.langFlatRow.kinds == (if Rows.langFlatRow.domain.isEmpty then [] else Tryz.f11.params.toList.map fun t=>match Tryz.prog.underlying t with|some (.int k)=>some k|_=>Option.none)))=true:=by kernel_rfl
theorem yF:((Rows.langFlatRow.pinned == Rows.langFlatRow.pinnedBy))=true:=by kernel_rfl
theorem yR:((Rows.langFlatRow.veiled == (Tryz.f11.params.toList++Rows.langFlatSpec.plain.varTypes Tryz.prog++Tryz.f11.resultTypes.toList).any (Tryz.prog.veiledRec ·)))=true:=by kernel_rfl
theorem yw:(Rows.langFlatRow.veiledFits Tryz.prog Tryz.f11.params.toList (Tryz.f11.params.toList++Rows.langFlatSpec.plain.varTypes Tryz.prog++Tryz.f11.resultTypes.toList))=true:=by kernel_rfl
end Go.Proofs.YtfkfimmphlpllaaGreatDoor
