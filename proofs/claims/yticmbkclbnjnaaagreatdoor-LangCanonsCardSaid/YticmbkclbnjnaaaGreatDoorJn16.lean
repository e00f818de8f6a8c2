/- Helpers. -/
import Derived.Test.YticmbkclbnjnaaaGreatDoorRows
import Derived.JoinedOf

set_option linter.all false
set_option maxHeartbeats 8000000
set_option maxRecDepth 100000
namespace Go.Proofs.YticmbkclbnjnaaaGreatDoor
open Go
theorem BE:(Rows.langCanonsRow.wf (OpenSpec.ofChange Rows.langCanonsSpec))=true:=by kernel_rfl
theorem Bu:(laidOutB Tryz.prog)=true:=by kernel_rfl
theorem BQ:(mapsRowed Tryz.prog)=true:=by kernel_rfl
theorem Bq:(Tryz.f3.params.all (Tryz.prog.readableRec ·))=true:=by kernel_rfl
theorem BK:(namedTie Tryz.prog Rows.langCanonsRow.named Rows.langCanonsSpec.vars)=true:=by kernel_rfl
theorem BA:((Rows.langCanonsRow.stops == []))=true:=by kernel_rfl
theorem Bz:((Tryz.prog.stops == []))=true:=by kernel_rfl
theorem Bp:((Rows.langCanonsRow.knobs == []))=true:=by kernel_rfl
theorem BF:((Tryz.prog.stopKnobs == []))=true:=by kernel_rfl
theorem BO:((Rows.langCanonsRow.inPlace==Tryz.prog.inPlace 3))=true:=by kernel_rfl
theorem zQ:((Rows.langCanonsRow.unfollowed==Tryz.prog.unfollowed 3))=true:=by kernel_rfl
theorem AM:((Rows.langCanonsRow.recurses==Tryz.prog.recurses 3))=true:=by kernel_rfl
theorem A7:((Rows.langCanonsRow.named==Tryz.prog.varsNamed 3))=true:=by kernel_rfl
theorem zT:((Rows.langCanonsRow.maps==(Tryz.f3.params.toList++Rows.langCanonsSpec.plain.varTypes Tryz.prog).any (Tryz.prog.mapsRec ·)))=true:=by kernel_rfl
theorem zM:((Rows.langCanonsRow.ifaces==(Tryz.f3.params.toList++Rows.langCanonsSpec.plain.varTypes Tryz.prog).any (Tryz.prog.ifacesRec ·)))=true:=by kernel_rfl
theorem zm:((Rows.langCanonsRow.mapsOut==Tryz.prog.mapsAmong Tryz.f3.resultTypes.toList))=true:=by kernel_rfl
theorem zA:((Rows.langCanonsRow.loops==(Tryz.f3.params.toList++Rows.langCanonsSpec.plain.varTypes Tryz.prog).any (Tryz.prog.loopsFrom ·)))=true:=by kernel_rfl
theorem y9:((Rows.langCanonsRow.wideKeys==(Tryz.f3.params.toList++Rows.langCanonsSpec.plain.varTypes Tryz.prog++Tryz.f3.resultTypes.toList).any (Tryz.prog.wideKeysFrom ·)))=true:=by kernel_rfl
theorem zg:(Rows.langCanonsSpec.vars.all (Tryz.prog.varReadable ·))=true:=by kernel_rfl
theorem Aj:(Tryz.f3.resultTypes.all (λt=>Tryz.prog.readableRec t&&decide (t<Tryz.prog.types.size)))=true:=by kernel_rfl
theorem zq:((Rows.langCanonsRow.ifacesOut==Tryz.f3.resultTypes.toList.any (Tryz.prog.ifacesRec ·)))=true:=by kernel_rfl
theorem yX:((Rows.langCanonsRow.loopsOut==Tryz.f3.resultTypes.toList.any (Tryz.prog.loopsFrom ·)))=true:=by kernel_rfl
theorem zO:((Rows.langCanonsRow.plainKeys==Tryz.prog.plainKeys))=true:=by kernel_rfl
theorem AQ:(Rows.langCanonsRow.shortTexts.isNone)=true:=by kernel_rfl
theorem AO:(Tryz.prog.stopsHeard)=true:=by kernel_rfl
theorem A5:(Tryz.prog.mayEnter)=true:=by kernel_rfl
theorem yY:((Rows.langCanonsRow.lifted==Tryz.prog.liftsFinal))=true:=by kernel_rfl
theorem Ax:((Tryz.prog.make==some Rows.langCanonsRow.make))=true:=by kernel_rfl
theorem zZ:((Rows.langCanonsRow.kinds==(if Rows.langCanonsRow.domain.isEmpty then[]else Tryz.f3.params.toList.map λt=>match Tryz.prog.underlying t with|some (.int k)=>some k|_=>Option.none)))=true:=by kernel_rfl
theorem Ay:((Rows.langCanonsRow.pinned==Rows.langCanonsRow.pinnedBy))=true:=by kernel_rfl
theorem AX:((Rows.langCanonsRow.veiled==(Tryz.f3.params.toList++Rows.langCanonsSpec.plain.varTypes Tryz.prog++Tryz.f3.resultTypes.toList).any (Tryz.prog.veiledRec ·)))=true:=by kernel_rfl
theorem Al:(Rows.langCanonsRow.veiledFits Tryz.prog Tryz.f3.params.toList (Tryz.f3.params.toList++Rows.langCanonsSpec.plain.varTypes Tryz.prog++Tryz.f3.resultTypes.toList))=true:=by kernel_rfl
end Go.Proofs.YticmbkclbnjnaaaGreatDoor
