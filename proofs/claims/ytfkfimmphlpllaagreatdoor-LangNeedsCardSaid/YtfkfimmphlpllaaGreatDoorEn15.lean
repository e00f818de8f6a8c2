/- Helpers: an abstract machine for Go functions, and walks of functions of the program. -/
import Derived.Test.YtfkfimmphlpllaaGreatDoorRows
import Derived.JoinedOf

set_option linter.all false
set_option maxHeartbeats 8000000
set_option maxRecDepth 100000
namespace Go.Proofs.YtfkfimmphlpllaaGreatDoor
open Go
theorem AS:(Rows.langNeedsRow.wf (OpenSpec.ofChange Rows.langNeedsSpec))=true:=by kernel_rfl
theorem AI:(laidOutB Tryz.prog)=true:=by kernel_rfl
theorem AR:(mapsRowed Tryz.prog)=true:=by kernel_rfl
theorem As:(Tryz.f7.params.all (Tryz.prog.readableRec ·))=true:=by kernel_rfl
theorem Ak:(namedTie Tryz.prog Rows.langNeedsRow.named Rows.langNeedsSpec.vars)=true:=by kernel_rfl
theorem AB:((Rows.langNeedsRow.stops == []))=true:=by kernel_rfl
theorem zA:((Tryz.prog.stops == []))=true:=by kernel_rfl
theorem zn:((Rows.langNeedsRow.knobs == []))=true:=by kernel_rfl
theorem zS:((Tryz.prog.stopKnobs == []))=true:=by kernel_rfl
theorem zM:((Rows.langNeedsRow.inPlace == Tryz.prog.inPlace 7))=true:=by kernel_rfl
theorem xo:((Rows.langNeedsRow.unfollowed == Tryz.prog.unfollowed 7))=true:=by kernel_rfl
theorem w8:((Rows.langNeedsRow.recurses == Tryz.prog.recurses 7))=true:=by kernel_rfl
theorem xD:((Rows.langNeedsRow.named == Tryz.prog.varsNamed 7))=true:=by kernel_rfl
theorem xI:((Rows.langNeedsRow.maps == (Tryz.f7.params.toList++Rows.langNeedsSpec.plain.varTypes Tryz.prog).any (Tryz.prog.mapsRec ·)))=true:=by kernel_rfl
theorem xe:((Rows.langNeedsRow.ifaces == (Tryz.f7.params.toList++Rows.langNeedsSpec.plain.varTypes Tryz.prog).any (Tryz.prog.ifacesRec ·)))=true:=by kernel_rfl
theorem xb:((Rows.langNeedsRow.mapsOut == Tryz.prog.mapsAmong Tryz.f7.resultTypes.toList))=true:=by kernel_rfl
theorem xJ:((Rows.langNeedsRow.loops == (Tryz.f7.params.toList++Rows.langNeedsSpec.plain.varTypes Tryz.prog).any (Tryz.prog.loopsFrom ·)))=true:=by kernel_rfl
theorem xg:((Rows.langNeedsRow.wideKeys == (Tryz.f7.params.toList++Rows.langNeedsSpec.plain.varTypes Tryz.prog++Tryz.f7.resultTypes.toList).any (Tryz.prog.wideKeysFrom ·)))=true:=by kernel_rfl
theorem xW:(Rows.langNeedsSpec.vars.all (Tryz.prog.varReadable ·))=true:=by kernel_rfl
theorem xV:(Tryz.f7.resultTypes.all (fun t=>Tryz.prog.readableRec t && decide (t<Tryz.prog.types.size)))=true:=by kernel_rfl
theorem xN:((Rows.langNeedsRow.ifacesOut == Tryz.f7.resultTypes.toList.any (Tryz.prog.ifacesRec ·)))=true:=by kernel_rfl
theorem xw:((Rows.langNeedsRow.loopsOut == Tryz.f7.resultTypes.toList.any (Tryz.prog.loopsFrom ·)))=true:=by kernel_rfl
theorem yd:((Rows.langNeedsRow.plainKeys == Tryz.prog.plainKeys))=true:=by kernel_rfl
theorem xk:(Rows.langNeedsRow.shortTexts.isNone)=true:=by kernel_rfl
theorem xM:(Tryz.prog.stopsHeard)=true:=by kernel_rfl
theorem xd:(Tryz.prog.mayEnter)=true:=by kernel_rfl
theorem xF:((Rows.langNeedsRow.lifted == Tryz.prog.liftsFinal))=true:=by kernel_rfl
theorem xX:((Tryz.prog.make == some Rows.langNeedsRow.make))=true:=by kernel_rfl
theorem xK:((Rows.langNeedsRow.kinds == (if Rows.langNeedsRow.domain.isEmpty then [] else Tryz.f7.params.toList.map fun t=>match Tryz.prog.underlying t with|some (.int k)=>some k|_=>Option.none)))=true:=by kernel_rfl
theorem xE:((Rows.langNeedsRow.pinned == Rows.langNeedsRow.pinnedBy))=true:=by kernel_rfl
theorem xl:((Rows.langNeedsRow.veiled == (Tryz.f7.params.toList++Rows.langNeedsSpec.plain.varTypes Tryz.prog++Tryz.f7.resultTypes.toList).any (Tryz.prog.veiledRec ·)))=true:=by kernel_rfl
theorem yc:(Rows.langNeedsRow.veiledFits Tryz.prog Tryz.f7.params.toList (Tryz.f7.params.toList++Rows.langNeedsSpec.plain.varTypes Tryz.prog++Tryz.f7.resultTypes.toList))=true:=by kernel_rfl
end Go.Proofs.YtfkfimmphlpllaaGreatDoor
