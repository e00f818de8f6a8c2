/- Helpers: an abstract machine for Go functions, and walks of functions of the program. -/
import Derived.Test.YtfkfimmphlpllaaGreatDoorRows
import Derived.JoinedOf

set_option linter.all false

namespace Go.Proofs.YtfkfimmphlpllaaGreatDoor
open Go
set_option maxRecDepth 100000
theorem langSames_c0 : (Rows.langSamesRow.wf (OpenSpec.ofChange Rows.langSamesSpec)) = true := by kernel_rfl
theorem langSames_c1 : (laidOutB Tryz.prog) = true := by kernel_rfl
theorem langSames_c2 : (mapsRowed Tryz.prog) = true := by kernel_rfl
theorem langSames_c3 : (Tryz.f9.params.all (Tryz.prog.readableRec ·)) = true := by kernel_rfl
theorem langSames_c4 : (namedTie Tryz.prog Rows.langSamesRow.named Rows.langSamesSpec.vars) = true := by kernel_rfl
theorem langSames_c5 : ((Rows.langSamesRow.stops == [])) = true := by kernel_rfl
theorem langSames_c6 : ((Tryz.prog.stops == [])) = true := by kernel_rfl
theorem langSames_c7 : ((Rows.langSamesRow.knobs == [])) = true := by kernel_rfl
theorem langSames_c8 : ((Tryz.prog.stopKnobs == [])) = true := by kernel_rfl
theorem langSames_c9 : ((Rows.langSamesRow.inPlace == Tryz.prog.inPlace 9)) = true := by kernel_rfl
theorem langSames_c10 : ((Rows.langSamesRow.unfollowed == Tryz.prog.unfollowed 9)) = true := by kernel_rfl
theorem langSames_c11 : ((Rows.langSamesRow.recurses == Tryz.prog.recurses 9)) = true := by kernel_rfl
theorem langSames_c12 : ((Rows.langSamesRow.named == Tryz.prog.varsNamed 9)) = true := by kernel_rfl
theorem langSames_c13 : ((Rows.langSamesRow.maps == (Tryz.f9.params.toList ++ Rows.langSamesSpec.plain.varTypes Tryz.prog).any (Tryz.prog.mapsRec ·))) = true := by kernel_rfl
theorem langSames_c14 : ((Rows.langSamesRow.ifaces == (Tryz.f9.params.toList ++ Rows.langSamesSpec.plain.varTypes Tryz.prog).any (Tryz.prog.ifacesRec ·))) = true := by kernel_rfl
theorem langSames_c15 : ((Rows.langSamesRow.mapsOut == Tryz.prog.mapsAmong Tryz.f9.resultTypes.toList)) = true := by kernel_rfl
theorem langSames_c16 : ((Rows.langSamesRow.loops == (Tryz.f9.params.toList ++ Rows.langSamesSpec.plain.varTypes Tryz.prog).any (Tryz.prog.loopsFrom ·))) = true := by kernel_rfl
theorem langSames_c17 : ((Rows.langSamesRow.wideKeys == (Tryz.f9.params.toList ++ Rows.langSamesSpec.plain.varTypes Tryz.prog ++ Tryz.f9.resultTypes.toList).any (Tryz.prog.wideKeysFrom ·))) = true := by kernel_rfl
theorem langSames_c18 : (Rows.langSamesSpec.vars.all (Tryz.prog.varReadable ·)) = true := by kernel_rfl
theorem langSames_c19 : (Tryz.f9.resultTypes.all (fun t => Tryz.prog.readableRec t && decide (t < Tryz.prog.types.size))) = true := by kernel_rfl
theorem langSames_c20 : ((Rows.langSamesRow.ifacesOut == Tryz.f9.resultTypes.toList.any (Tryz.prog.ifacesRec ·))) = true := by kernel_rfl
theorem langSames_c21 : ((Rows.langSamesRow.loopsOut == Tryz.f9.resultTypes.toList.any (Tryz.prog.loopsFrom ·))) = true := by kernel_rfl
theorem langSames_c22 : ((Rows.langSamesRow.plainKeys == Tryz.prog.plainKeys)) = true := by kernel_rfl
theorem langSames_c23 : (Rows.langSamesRow.shortTexts.isNone) = true := by kernel_rfl
theorem langSames_c24 : (Tryz.prog.stopsHeard) = true := by kernel_rfl
theorem langSames_c25 : (Tryz.prog.mayEnter) = true := by kernel_rfl
theorem langSames_c26 : ((Rows.langSamesRow.lifted == Tryz.prog.liftsFinal)) = true := by kernel_rfl
theorem langSames_c27 : ((Tryz.prog.make == some Rows.langSamesRow.make)) = true := by kernel_rfl
theorem langSames_c28 : ((Rows.langSamesRow.kinds == (if Rows.langSamesRow.domain.isEmpty then [] else Tryz.f9.params.toList.map fun t => match Tryz.prog.underlying t with | some (.int k) => some k | _ => Option.none))) = true := by kernel_rfl
theorem langSames_c29 : ((Rows.langSamesRow.pinned == Rows.langSamesRow.pinnedBy)) = true := by kernel_rfl
theorem langSames_c30 : ((Rows.langSamesRow.veiled == (Tryz.f9.params.toList ++ Rows.langSamesSpec.plain.varTypes Tryz.prog ++ Tryz.f9.resultTypes.toList).any (Tryz.prog.veiledRec ·))) = true := by kernel_rfl
theorem langSames_c31 : (Rows.langSamesRow.veiledFits Tryz.prog Tryz.f9.params.toList (Tryz.f9.params.toList ++ Rows.langSamesSpec.plain.varTypes Tryz.prog ++ Tryz.f9.resultTypes.toList)) = true := by kernel_rfl
end Go.Proofs.YtfkfimmphlpllaaGreatDoor
