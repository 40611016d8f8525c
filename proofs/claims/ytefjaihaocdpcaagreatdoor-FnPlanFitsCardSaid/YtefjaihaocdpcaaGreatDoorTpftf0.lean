/- Closed facts of the row of FnPlanFits. -/
import Derived.Test.YtefjaihaocdpcaaGreatDoorCards
import Derived.JoinedOf
import Derived.SevenTiedAt
import Derived.KernelRfl
set_option linter.unusedVariables false
set_option maxRecDepth 100000
namespace Go.Proofs.YtefjaihaocdpcaaGreatDoor.fnPlanFits
open Go
theorem fa1 : (Rows.fnPlanFitsRow.wf (OpenSpec.ofChange Rows.fnPlanFitsSpec)) = true:=by kernel_rfl
theorem fa2 : (laidOutB Tryz.prog) = true:=by kernel_rfl
theorem fa3 : (mapsRowed Tryz.prog) = true:=by kernel_rfl
theorem fa4 : (Tryz.f4.params.all (Tryz.prog.readableRec ·)) = true:=by kernel_rfl
theorem fa5 : (namedTie Tryz.prog Rows.fnPlanFitsRow.named Rows.fnPlanFitsSpec.vars) = true:=by kernel_rfl
theorem fa6 : ((Rows.fnPlanFitsRow.stops == [])) = true:=by kernel_rfl
theorem fa7 : ((Tryz.prog.stops == [])) = true:=by kernel_rfl
theorem fa8 : ((Rows.fnPlanFitsRow.knobs == [])) = true:=by kernel_rfl
theorem fa9 : ((Tryz.prog.stopKnobs == [])) = true:=by kernel_rfl
theorem fa14 : ((Rows.fnPlanFitsRow.maps == (Tryz.f4.params.toList ++ Rows.fnPlanFitsSpec.plain.varTypes Tryz.prog).any (Tryz.prog.mapsRec ·))) = true:=by kernel_rfl
theorem fa15 : ((Rows.fnPlanFitsRow.ifaces == (Tryz.f4.params.toList ++ Rows.fnPlanFitsSpec.plain.varTypes Tryz.prog).any (Tryz.prog.ifacesRec ·))) = true:=by kernel_rfl
theorem fa16 : ((Rows.fnPlanFitsRow.mapsOut == Tryz.prog.mapsAmong Tryz.f4.resultTypes.toList)) = true:=by kernel_rfl
theorem fa17 : ((Rows.fnPlanFitsRow.loops == (Tryz.f4.params.toList ++ Rows.fnPlanFitsSpec.plain.varTypes Tryz.prog).any (Tryz.prog.loopsFrom ·))) = true:=by kernel_rfl
theorem fa18 : ((Rows.fnPlanFitsRow.wideKeys == (Tryz.f4.params.toList ++ Rows.fnPlanFitsSpec.plain.varTypes Tryz.prog ++ Tryz.f4.resultTypes.toList).any (Tryz.prog.wideKeysFrom ·))) = true:=by kernel_rfl
theorem fa19 : (Rows.fnPlanFitsSpec.vars.all (Tryz.prog.varReadable ·)) = true:=by kernel_rfl
theorem fa20 : (Tryz.f4.resultTypes.all (fun t=>Tryz.prog.readableRec t && decide (t < Tryz.prog.types.size))) = true:=by kernel_rfl
theorem fa21 : ((Rows.fnPlanFitsRow.ifacesOut == Tryz.f4.resultTypes.toList.any (Tryz.prog.ifacesRec ·))) = true:=by kernel_rfl
theorem fa22 : ((Rows.fnPlanFitsRow.loopsOut == Tryz.f4.resultTypes.toList.any (Tryz.prog.loopsFrom ·))) = true:=by kernel_rfl
theorem fa23 : ((Rows.fnPlanFitsRow.plainKeys == Tryz.prog.plainKeys)) = true:=by kernel_rfl
theorem fa24 : (Rows.fnPlanFitsRow.shortTexts.isNone) = true:=by kernel_rfl
theorem fa25 : (Tryz.prog.stopsHeard) = true:=by kernel_rfl
theorem fa26 : (Tryz.prog.mayEnter) = true:=by kernel_rfl
theorem fa27 : ((Rows.fnPlanFitsRow.lifted == Tryz.prog.liftsFinal)) = true:=by kernel_rfl
theorem fa28 : ((Tryz.prog.make == some Rows.fnPlanFitsRow.make)) = true:=by kernel_rfl
theorem fa29 : ((Rows.fnPlanFitsRow.kinds == (if Rows.fnPlanFitsRow.domain.isEmpty then [] else Tryz.f4.params.toList.map fun t=>match Tryz.prog.underlying t with | some (.int k)=>some k | _=>none))) = true:=by kernel_rfl
theorem fa30 : ((Rows.fnPlanFitsRow.pinned == Rows.fnPlanFitsRow.pinnedBy)) = true:=by kernel_rfl
theorem fa31 : ((Rows.fnPlanFitsRow.veiled == (Tryz.f4.params.toList ++ Rows.fnPlanFitsSpec.plain.varTypes Tryz.prog ++ Tryz.f4.resultTypes.toList).any (Tryz.prog.veiledRec ·))) = true:=by kernel_rfl
theorem fa32 : (Rows.fnPlanFitsRow.veiledFits Tryz.prog Tryz.f4.params.toList (Tryz.f4.params.toList ++ Rows.fnPlanFitsSpec.plain.varTypes Tryz.prog ++ Tryz.f4.resultTypes.toList)) = true:=by kernel_rfl
end Go.Proofs.YtefjaihaocdpcaaGreatDoor.fnPlanFits
