/- Closed facts of the row of FnPlanPrint. -/
import Derived.Test.YtefjaihaocdpcaaGreatDoorCards
import Derived.JoinedOf
import Derived.SevenTiedAt
import Derived.KernelRfl
set_option linter.unusedVariables false
set_option maxRecDepth 100000
namespace Go.Proofs.YtefjaihaocdpcaaGreatDoor.fnPlanPrint
open Go
theorem fa1:(Rows.fnPlanPrintRow.wf (OpenSpec.ofChange Rows.fnPlanPrintSpec))=true:=by kernel_rfl
theorem fa2:(laidOutB Tryz.prog)=true:=by kernel_rfl
theorem fa3:(mapsRowed Tryz.prog)=true:=by kernel_rfl
theorem fa4:(Tryz.f10.params.all (Tryz.prog.readableRec ·))=true:=by kernel_rfl
theorem fa5:(namedTie Tryz.prog Rows.fnPlanPrintRow.named Rows.fnPlanPrintSpec.vars)=true:=by kernel_rfl
theorem fa6:((Rows.fnPlanPrintRow.stops==[]))=true:=by kernel_rfl
theorem fa7:((Tryz.prog.stops==[]))=true:=by kernel_rfl
theorem fa8:((Rows.fnPlanPrintRow.knobs==[]))=true:=by kernel_rfl
theorem fa9:((Tryz.prog.stopKnobs==[]))=true:=by kernel_rfl
theorem fa14:((Rows.fnPlanPrintRow.maps==(Tryz.f10.params.toList++Rows.fnPlanPrintSpec.plain.varTypes Tryz.prog).any (Tryz.prog.mapsRec ·)))=true:=by kernel_rfl
theorem fa15:((Rows.fnPlanPrintRow.ifaces==(Tryz.f10.params.toList++Rows.fnPlanPrintSpec.plain.varTypes Tryz.prog).any (Tryz.prog.ifacesRec ·)))=true:=by kernel_rfl
theorem fa16:((Rows.fnPlanPrintRow.mapsOut==Tryz.prog.mapsAmong Tryz.f10.resultTypes.toList))=true:=by kernel_rfl
theorem fa17:((Rows.fnPlanPrintRow.loops==(Tryz.f10.params.toList++Rows.fnPlanPrintSpec.plain.varTypes Tryz.prog).any (Tryz.prog.loopsFrom ·)))=true:=by kernel_rfl
theorem fa18:((Rows.fnPlanPrintRow.wideKeys==(Tryz.f10.params.toList++Rows.fnPlanPrintSpec.plain.varTypes Tryz.prog++Tryz.f10.resultTypes.toList).any (Tryz.prog.wideKeysFrom ·)))=true:=by kernel_rfl
theorem fa19:(Rows.fnPlanPrintSpec.vars.all (Tryz.prog.varReadable ·))=true:=by kernel_rfl
theorem fa20:(Tryz.f10.resultTypes.all (fun t=>Tryz.prog.readableRec t&&decide (t<Tryz.prog.types.size)))=true:=by kernel_rfl
theorem fa21:((Rows.fnPlanPrintRow.ifacesOut==Tryz.f10.resultTypes.toList.any (Tryz.prog.ifacesRec ·)))=true:=by kernel_rfl
theorem fa22:((Rows.fnPlanPrintRow.loopsOut==Tryz.f10.resultTypes.toList.any (Tryz.prog.loopsFrom ·)))=true:=by kernel_rfl
theorem fa23:((Rows.fnPlanPrintRow.plainKeys==Tryz.prog.plainKeys))=true:=by kernel_rfl
theorem fa24:(Rows.fnPlanPrintRow.shortTexts.isNone)=true:=by kernel_rfl
theorem fa25:(Tryz.prog.stopsHeard)=true:=by kernel_rfl
theorem fa26:(Tryz.prog.mayEnter)=true:=by kernel_rfl
theorem fa27:((Rows.fnPlanPrintRow.lifted==Tryz.prog.liftsFinal))=true:=by kernel_rfl
theorem fa28:((Tryz.prog.make==some Rows.fnPlanPrintRow.make))=true:=by kernel_rfl
theorem fa29:((Rows.fnPlanPrintRow.kinds==(if Rows.fnPlanPrintRow.domain.isEmpty then [] else Tryz.f10.params.toList.map fun t=>match Tryz.prog.underlying t with|some (.int k)=>some k|_=>none)))=true:=by kernel_rfl
theorem fa30:((Rows.fnPlanPrintRow.pinned==Rows.fnPlanPrintRow.pinnedBy))=true:=by kernel_rfl
theorem fa31:((Rows.fnPlanPrintRow.veiled==(Tryz.f10.params.toList++Rows.fnPlanPrintSpec.plain.varTypes Tryz.prog++Tryz.f10.resultTypes.toList).any (Tryz.prog.veiledRec ·)))=true:=by kernel_rfl
theorem fa32:(Rows.fnPlanPrintRow.veiledFits Tryz.prog Tryz.f10.params.toList (Tryz.f10.params.toList++Rows.fnPlanPrintSpec.plain.varTypes Tryz.prog++Tryz.f10.resultTypes.toList))=true:=by kernel_rfl
end Go.Proofs.YtefjaihaocdpcaaGreatDoor.fnPlanPrint
