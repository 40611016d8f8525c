/- Closed facts of the row of FnPlanTop. -/
import Derived.Test.YtefjaihaocdpcaaGreatDoorCards
import Derived.JoinedOf
import Derived.SevenTiedAt
import Derived.KernelRfl
set_option linter.unusedVariables false
set_option maxRecDepth 100000
namespace Go.Proofs.YtefjaihaocdpcaaGreatDoor.fnPlanTop
open Go
theorem fa1 : (Rows.fnPlanTopRow.wf (OpenSpec.ofChange Rows.fnPlanTopSpec)) = true:=by kernel_rfl
theorem fa2 : (laidOutB Tryz.prog) = true:=by kernel_rfl
theorem fa3 : (mapsRowed Tryz.prog) = true:=by kernel_rfl
theorem fa4 : (Tryz.f11.params.all (Tryz.prog.readableRec ·)) = true:=by kernel_rfl
theorem fa5 : (namedTie Tryz.prog Rows.fnPlanTopRow.named Rows.fnPlanTopSpec.vars) = true:=by kernel_rfl
theorem fa6 : ((Rows.fnPlanTopRow.stops == [])) = true:=by kernel_rfl
theorem fa7 : ((Tryz.prog.stops == [])) = true:=by kernel_rfl
theorem fa8 : ((Rows.fnPlanTopRow.knobs == [])) = true:=by kernel_rfl
theorem fa9 : ((Tryz.prog.stopKnobs == [])) = true:=by kernel_rfl
theorem fa14 : ((Rows.fnPlanTopRow.maps == (Tryz.f11.params.toList ++ Rows.fnPlanTopSpec.plain.varTypes Tryz.prog).any (Tryz.prog.mapsRec ·))) = true:=by kernel_rfl
theorem fa15 : ((Rows.fnPlanTopRow.ifaces == (Tryz.f11.params.toList ++ Rows.fnPlanTopSpec.plain.varTypes Tryz.prog).any (Tryz.prog.ifacesRec ·))) = true:=by kernel_rfl
theorem fa16 : ((Rows.fnPlanTopRow.mapsOut == Tryz.prog.mapsAmong Tryz.f11.resultTypes.toList)) = true:=by kernel_rfl
theorem fa17 : ((Rows.fnPlanTopRow.loops == (Tryz.f11.params.toList ++ Rows.fnPlanTopSpec.plain.varTypes Tryz.prog).any (Tryz.prog.loopsFrom ·))) = true:=by kernel_rfl
theorem fa18 : ((Rows.fnPlanTopRow.wideKeys == (Tryz.f11.params.toList ++ Rows.fnPlanTopSpec.plain.varTypes Tryz.prog ++ Tryz.f11.resultTypes.toList).any (Tryz.prog.wideKeysFrom ·))) = true:=by kernel_rfl
theorem fa19 : (Rows.fnPlanTopSpec.vars.all (Tryz.prog.varReadable ·)) = true:=by kernel_rfl
theorem fa20 : (Tryz.f11.resultTypes.all (fun t=>Tryz.prog.readableRec t && decide (t < Tryz.prog.types.size))) = true:=by kernel_rfl
theorem fa21 : ((Rows.fnPlanTopRow.ifacesOut == Tryz.f11.resultTypes.toList.any (Tryz.prog.ifacesRec ·))) = true:=by kernel_rfl
theorem fa22 : ((Rows.fnPlanTopRow.loopsOut == Tryz.f11.resultTypes.toList.any (Tryz.prog.loopsFrom ·))) = true:=by kernel_rfl
theorem fa23 : ((Rows.fnPlanTopRow.plainKeys == Tryz.prog.plainKeys)) = true:=by kernel_rfl
theorem fa24 : (Rows.fnPlanTopRow.shortTexts.isNone) = true:=by kernel_rfl
theorem fa25 : (Tryz.prog.stopsHeard) = true:=by kernel_rfl
theorem fa26 : (Tryz.prog.mayEnter) = true:=by kernel_rfl
theorem fa27 : ((Rows.fnPlanTopRow.lifted == Tryz.prog.liftsFinal)) = true:=by kernel_rfl
theorem fa28 : ((Tryz.prog.make == some Rows.fnPlanTopRow.make)) = true:=by kernel_rfl
theorem fa29 : ((Rows.fnPlanTopRow.kinds == (if Rows.fnPlanTopRow.domain.isEmpty then [] else Tryz.f11.params.toList.map fun t=>match Tryz.prog.underlying t with | some (.int k)=>some k | _=>none))) = true:=by kernel_rfl
theorem fa30 : ((Rows.fnPlanTopRow.pinned == Rows.fnPlanTopRow.pinnedBy)) = true:=by kernel_rfl
theorem fa31 : ((Rows.fnPlanTopRow.veiled == (Tryz.f11.params.toList ++ Rows.fnPlanTopSpec.plain.varTypes Tryz.prog ++ Tryz.f11.resultTypes.toList).any (Tryz.prog.veiledRec ·))) = true:=by kernel_rfl
theorem fa32 : (Rows.fnPlanTopRow.veiledFits Tryz.prog Tryz.f11.params.toList (Tryz.f11.params.toList ++ Rows.fnPlanTopSpec.plain.varTypes Tryz.prog ++ Tryz.f11.resultTypes.toList)) = true:=by kernel_rfl
end Go.Proofs.YtefjaihaocdpcaaGreatDoor.fnPlanTop
