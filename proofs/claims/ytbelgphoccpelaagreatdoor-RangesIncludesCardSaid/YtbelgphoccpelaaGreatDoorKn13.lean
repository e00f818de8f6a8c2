/- Helpers: an abstract machine for Go functions, and walks of functions of the program. -/
import Derived.Test.YtbelgphoccpelaaGreatDoorRows
import Derived.JoinedOf

set_option linter.all false
set_option maxHeartbeats 8000000
set_option maxRecDepth 100000
namespace Go.Proofs.YtbelgphoccpelaaGreatDoor
open Go
theorem rangesIncludes_c0 : (Rows.rangesIncludesRow.wf (OpenSpec.ofChange Rows.rangesIncludesSpec)) = true := by kernel_rfl
theorem rangesIncludes_c1 : (laidOutB Tryz.prog) = true := by kernel_rfl
theorem rangesIncludes_c2 : (mapsRowed Tryz.prog) = true := by kernel_rfl
theorem rangesIncludes_c3 : (Tryz.f3.params.all (Tryz.prog.readableRec ·)) = true := by kernel_rfl
theorem rangesIncludes_c4 : (namedTie Tryz.prog Rows.rangesIncludesRow.named Rows.rangesIncludesSpec.vars) = true := by kernel_rfl
theorem rangesIncludes_c5 : ((Rows.rangesIncludesRow.stops == [])) = true := by kernel_rfl
theorem rangesIncludes_c6 : ((Tryz.prog.stops == [])) = true := by kernel_rfl
theorem rangesIncludes_c7 : ((Rows.rangesIncludesRow.knobs == [])) = true := by kernel_rfl
theorem rangesIncludes_c8 : ((Tryz.prog.stopKnobs == [])) = true := by kernel_rfl
theorem rangesIncludes_c9 : ((Rows.rangesIncludesRow.inPlace == Tryz.prog.inPlace 3)) = true := by kernel_rfl
theorem rangesIncludes_c10 : ((Rows.rangesIncludesRow.unfollowed == Tryz.prog.unfollowed 3)) = true := by kernel_rfl
theorem rangesIncludes_c11 : ((Rows.rangesIncludesRow.recurses == Tryz.prog.recurses 3)) = true := by kernel_rfl
theorem rangesIncludes_c12 : ((Rows.rangesIncludesRow.named == Tryz.prog.varsNamed 3)) = true := by kernel_rfl
theorem rangesIncludes_c13 : ((Rows.rangesIncludesRow.maps == (Tryz.f3.params.toList ++ Rows.rangesIncludesSpec.plain.varTypes Tryz.prog).any (Tryz.prog.mapsRec ·))) = true := by kernel_rfl
theorem rangesIncludes_c14 : ((Rows.rangesIncludesRow.ifaces == (Tryz.f3.params.toList ++ Rows.rangesIncludesSpec.plain.varTypes Tryz.prog).any (Tryz.prog.ifacesRec ·))) = true := by kernel_rfl
theorem rangesIncludes_c15 : ((Rows.rangesIncludesRow.mapsOut == Tryz.prog.mapsAmong Tryz.f3.resultTypes.toList)) = true := by kernel_rfl
theorem rangesIncludes_c16 : ((Rows.rangesIncludesRow.loops == (Tryz.f3.params.toList ++ Rows.rangesIncludesSpec.plain.varTypes Tryz.prog).any (Tryz.prog.loopsFrom ·))) = true := by kernel_rfl
theorem rangesIncludes_c17 : ((Rows.rangesIncludesRow.wideKeys == (Tryz.f3.params.toList ++ Rows.rangesIncludesSpec.plain.varTypes Tryz.prog ++ Tryz.f3.resultTypes.toList).any (Tryz.prog.wideKeysFrom ·))) = true := by kernel_rfl
theorem rangesIncludes_c18 : (Rows.rangesIncludesSpec.vars.all (Tryz.prog.varReadable ·)) = true := by kernel_rfl
theorem rangesIncludes_c19 : (Tryz.f3.resultTypes.all (fun t => Tryz.prog.readableRec t && decide (t < Tryz.prog.types.size))) = true := by kernel_rfl
theorem rangesIncludes_c20 : ((Rows.rangesIncludesRow.ifacesOut == Tryz.f3.resultTypes.toList.any (Tryz.prog.ifacesRec ·))) = true := by kernel_rfl
theorem rangesIncludes_c21 : ((Rows.rangesIncludesRow.loopsOut == Tryz.f3.resultTypes.toList.any (Tryz.prog.loopsFrom ·))) = true := by kernel_rfl
theorem rangesIncludes_c22 : ((Rows.rangesIncludesRow.plainKeys == Tryz.prog.plainKeys)) = true := by kernel_rfl
theorem rangesIncludes_c23 : (Rows.rangesIncludesRow.shortTexts.isNone) = true := by kernel_rfl
theorem rangesIncludes_c24 : (Tryz.prog.stopsHeard) = true := by kernel_rfl
theorem rangesIncludes_c25 : (Tryz.prog.mayEnter) = true := by kernel_rfl
theorem rangesIncludes_c26 : ((Rows.rangesIncludesRow.lifted == Tryz.prog.liftsFinal)) = true := by kernel_rfl
theorem rangesIncludes_c27 : ((Tryz.prog.make == some Rows.rangesIncludesRow.make)) = true := by kernel_rfl
theorem rangesIncludes_c28 : ((Rows.rangesIncludesRow.kinds == (if Rows.rangesIncludesRow.domain.isEmpty then [] else Tryz.f3.params.toList.map fun t => match Tryz.prog.underlying t with | some (.int k) => some k | _ => Option.none))) = true := by kernel_rfl
theorem rangesIncludes_c29 : ((Rows.rangesIncludesRow.pinned == Rows.rangesIncludesRow.pinnedBy)) = true := by kernel_rfl
theorem rangesIncludes_c30 : ((Rows.rangesIncludesRow.veiled == (Tryz.f3.params.toList ++ Rows.rangesIncludesSpec.plain.varTypes Tryz.prog ++ Tryz.f3.resultTypes.toList).any (Tryz.prog.veiledRec ·))) = true := by kernel_rfl
theorem rangesIncludes_c31 : (Rows.rangesIncludesRow.veiledFits Tryz.prog Tryz.f3.params.toList (Tryz.f3.params.toList ++ Rows.rangesIncludesSpec.plain.varTypes Tryz.prog ++ Tryz.f3.resultTypes.toList)) = true := by kernel_rfl
end Go.Proofs.YtbelgphoccpelaaGreatDoor
