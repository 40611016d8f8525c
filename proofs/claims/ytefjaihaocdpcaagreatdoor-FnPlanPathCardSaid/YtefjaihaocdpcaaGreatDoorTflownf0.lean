/- Closed facts of the row of FnPlanPath. -/
import Derived.Test.YtefjaihaocdpcaaGreatDoorCards
import Derived.JoinedOf
import Derived.SevenTiedAt
import Derived.KernelRfl
set_option linter.unusedVariables false
set_option maxRecDepth 100000
namespace Go.Proofs.YtefjaihaocdpcaaGreatDoor.fnPlanPath
open Go
theorem fa1 : (Rows.fnPlanPathRow.wf (OpenSpec.ofChange Rows.fnPlanPathSpec)) = true := by kernel_rfl
theorem fa2 : (laidOutB Tryz.prog) = true := by kernel_rfl
theorem fa3 : (mapsRowed Tryz.prog) = true := by kernel_rfl
theorem fa4 : (Tryz.f3.params.all (Tryz.prog.readableRec ·)) = true := by kernel_rfl
theorem fa5 : (namedTie Tryz.prog Rows.fnPlanPathRow.named Rows.fnPlanPathSpec.vars) = true := by kernel_rfl
theorem fa6 : ((Rows.fnPlanPathRow.stops == [])) = true := by kernel_rfl
theorem fa7 : ((Tryz.prog.stops == [])) = true := by kernel_rfl
theorem fa8 : ((Rows.fnPlanPathRow.knobs == [])) = true := by kernel_rfl
theorem fa9 : ((Tryz.prog.stopKnobs == [])) = true := by kernel_rfl
theorem fa14 : ((Rows.fnPlanPathRow.maps == (Tryz.f3.params.toList ++ Rows.fnPlanPathSpec.plain.varTypes Tryz.prog).any (Tryz.prog.mapsRec ·))) = true := by kernel_rfl
theorem fa15 : ((Rows.fnPlanPathRow.ifaces == (Tryz.f3.params.toList ++ Rows.fnPlanPathSpec.plain.varTypes Tryz.prog).any (Tryz.prog.ifacesRec ·))) = true := by kernel_rfl
theorem fa16 : ((Rows.fnPlanPathRow.mapsOut == Tryz.prog.mapsAmong Tryz.f3.resultTypes.toList)) = true := by kernel_rfl
theorem fa17 : ((Rows.fnPlanPathRow.loops == (Tryz.f3.params.toList ++ Rows.fnPlanPathSpec.plain.varTypes Tryz.prog).any (Tryz.prog.loopsFrom ·))) = true := by kernel_rfl
theorem fa18 : ((Rows.fnPlanPathRow.wideKeys == (Tryz.f3.params.toList ++ Rows.fnPlanPathSpec.plain.varTypes Tryz.prog ++ Tryz.f3.resultTypes.toList).any (Tryz.prog.wideKeysFrom ·))) = true := by kernel_rfl
theorem fa19 : (Rows.fnPlanPathSpec.vars.all (Tryz.prog.varReadable ·)) = true := by kernel_rfl
theorem fa20 : (Tryz.f3.resultTypes.all (fun t => Tryz.prog.readableRec t && decide (t < Tryz.prog.types.size))) = true := by kernel_rfl
theorem fa21 : ((Rows.fnPlanPathRow.ifacesOut == Tryz.f3.resultTypes.toList.any (Tryz.prog.ifacesRec ·))) = true := by kernel_rfl
theorem fa22 : ((Rows.fnPlanPathRow.loopsOut == Tryz.f3.resultTypes.toList.any (Tryz.prog.loopsFrom ·))) = true := by kernel_rfl
theorem fa23 : ((Rows.fnPlanPathRow.plainKeys == Tryz.prog.plainKeys)) = true := by kernel_rfl
theorem fa24 : (Rows.fnPlanPathRow.shortTexts.isNone) = true := by kernel_rfl
theorem fa25 : (Tryz.prog.stopsHeard) = true := by kernel_rfl
theorem fa26 : (Tryz.prog.mayEnter) = true := by kernel_rfl
theorem fa27 : ((Rows.fnPlanPathRow.lifted == Tryz.prog.liftsFinal)) = true := by kernel_rfl
theorem fa28 : ((Tryz.prog.make == some Rows.fnPlanPathRow.make)) = true := by kernel_rfl
theorem fa29 : ((Rows.fnPlanPathRow.kinds == (if Rows.fnPlanPathRow.domain.isEmpty then [] else Tryz.f3.params.toList.map fun t => match Tryz.prog.underlying t with | some (.int k) => some k | _ => none))) = true := by kernel_rfl
theorem fa30 : ((Rows.fnPlanPathRow.pinned == Rows.fnPlanPathRow.pinnedBy)) = true := by kernel_rfl
theorem fa31 : ((Rows.fnPlanPathRow.veiled == (Tryz.f3.params.toList ++ Rows.fnPlanPathSpec.plain.varTypes Tryz.prog ++ Tryz.f3.resultTypes.toList).any (Tryz.prog.veiledRec ·))) = true := by kernel_rfl
theorem fa32 : (Rows.fnPlanPathRow.veiledFits Tryz.prog Tryz.f3.params.toList (Tryz.f3.params.toList ++ Rows.fnPlanPathSpec.plain.varTypes Tryz.prog ++ Tryz.f3.resultTypes.toList)) = true := by kernel_rfl
end Go.Proofs.YtefjaihaocdpcaaGreatDoor.fnPlanPath
