/- Helpers: an abstract machine for Go functions, and walks of functions of the program. -/
import Derived.Test.YtfkfimmphlpllaaGreatDoorRows
import Derived.JoinedOf

set_option linter.all false

namespace Go.Proofs.YtfkfimmphlpllaaGreatDoor
open Go
set_option maxRecDepth 100000
theorem langOwn_c0:(Rows.langOwnRow.wf (OpenSpec.ofChange Rows.langOwnSpec))=true:=by kernel_rfl
theorem langOwn_c1:(laidOutB Tryz.prog)=true:=by kernel_rfl
theorem langOwn_c2:(mapsRowed Tryz.prog)=true:=by kernel_rfl
theorem langOwn_c3:(Tryz.f15.params.all (Tryz.prog.readableRec ·))=true:=by kernel_rfl
theorem langOwn_c4:(namedTie Tryz.prog Rows.langOwnRow.named Rows.langOwnSpec.vars)=true:=by kernel_rfl
theorem langOwn_c5:((Rows.langOwnRow.stops == []))=true:=by kernel_rfl
theorem langOwn_c6:((Tryz.prog.stops == []))=true:=by kernel_rfl
theorem langOwn_c7:((Rows.langOwnRow.knobs == []))=true:=by kernel_rfl
theorem langOwn_c8:((Tryz.prog.stopKnobs == []))=true:=by kernel_rfl
theorem langOwn_c9:((Rows.langOwnRow.inPlace == Tryz.prog.inPlace 15))=true:=by kernel_rfl
theorem langOwn_c10:((Rows.langOwnRow.unfollowed == Tryz.prog.unfollowed 15))=true:=by kernel_rfl
theorem langOwn_c11:((Rows.langOwnRow.recurses == Tryz.prog.recurses 15))=true:=by kernel_rfl
theorem langOwn_c12:((Rows.langOwnRow.named == Tryz.prog.varsNamed 15))=true:=by kernel_rfl
theorem langOwn_c13:((Rows.langOwnRow.maps == (Tryz.f15.params.toList++Rows.langOwnSpec.plain.varTypes Tryz.prog).any (Tryz.prog.mapsRec ·)))=true:=by kernel_rfl
theorem langOwn_c14:((Rows.langOwnRow.ifaces == (Tryz.f15.params.toList++Rows.langOwnSpec.plain.varTypes Tryz.prog).any (Tryz.prog.ifacesRec ·)))=true:=by kernel_rfl
theorem langOwn_c15:((Rows.langOwnRow.mapsOut == Tryz.prog.mapsAmong Tryz.f15.resultTypes.toList))=true:=by kernel_rfl
theorem langOwn_c16:((Rows.langOwnRow.loops == (Tryz.f15.params.toList++Rows.langOwnSpec.plain.varTypes Tryz.prog).any (Tryz.prog.loopsFrom ·)))=true:=by kernel_rfl
theorem langOwn_c17:((Rows.langOwnRow.wideKeys == (Tryz.f15.params.toList++Rows.langOwnSpec.plain.varTypes Tryz.prog++Tryz.f15.resultTypes.toList).any (Tryz.prog.wideKeysFrom ·)))=true:=by kernel_rfl
theorem langOwn_c18:(Rows.langOwnSpec.vars.all (Tryz.prog.varReadable ·))=true:=by kernel_rfl
theorem langOwn_c19:(Tryz.f15.resultTypes.all (fun t=>Tryz.prog.readableRec t && decide (t<Tryz.prog.types.size)))=true:=by kernel_rfl
theorem langOwn_c20:((Rows.langOwnRow.ifacesOut == Tryz.f15.resultTypes.toList.any (Tryz.prog.ifacesRec ·)))=true:=by kernel_rfl
theorem langOwn_c21:((Rows.langOwnRow.loopsOut == Tryz.f15.resultTypes.toList.any (Tryz.prog.loopsFrom ·)))=true:=by kernel_rfl
theorem langOwn_c22:((Rows.langOwnRow.plainKeys == Tryz.prog.plainKeys))=true:=by kernel_rfl
theorem langOwn_c23:(Rows.langOwnRow.shortTexts.isNone)=true:=by kernel_rfl
theorem langOwn_c24:(Tryz.prog.stopsHeard)=true:=by kernel_rfl
theorem langOwn_c25:(Tryz.prog.mayEnter)=true:=by kernel_rfl
theorem langOwn_c26:((Rows.langOwnRow.lifted == Tryz.prog.liftsFinal))=true:=by kernel_rfl
theorem langOwn_c27:((Tryz.prog.make == some Rows.langOwnRow.make))=true:=by kernel_rfl
theorem langOwn_c28:((Rows.langOwnRow.kinds == (if Rows.langOwnRow.domain.isEmpty then [] else Tryz.f15.params.toList.map fun t=>match Tryz.prog.underlying t with|some (.int k)=>some k|_=>Option.none)))=true:=by kernel_rfl
theorem langOwn_c29:((Rows.langOwnRow.pinned == Rows.langOwnRow.pinnedBy))=true:=by kernel_rfl
theorem langOwn_c30:((Rows.langOwnRow.veiled == (Tryz.f15.params.toList++Rows.langOwnSpec.plain.varTypes Tryz.prog++Tryz.f15.resultTypes.toList).any (Tryz.prog.veiledRec ·)))=true:=by kernel_rfl
theorem langOwn_c31:(Rows.langOwnRow.veiledFits Tryz.prog Tryz.f15.params.toList (Tryz.f15.params.toList++Rows.langOwnSpec.plain.varTypes Tryz.prog++Tryz.f15.resultTypes.toList))=true:=by kernel_rfl
end Go.Proofs.YtfkfimmphlpllaaGreatDoor
