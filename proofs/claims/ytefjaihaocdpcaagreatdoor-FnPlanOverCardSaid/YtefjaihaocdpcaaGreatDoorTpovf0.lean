/- Closed facts of the row of FnPlanOver. -/
import Derived.Test.YtefjaihaocdpcaaGreatDoorCards
import Derived.JoinedOf
import Derived.SevenTiedAt
import Derived.KernelRfl
set_option linter.unusedVariables false
set_option maxRecDepth 100000
namespace Go.Proofs.YtefjaihaocdpcaaGreatDoor.fnPlanOver
open Go
theorem fa1 : (Rows.fnPlanOverRow.wf (OpenSpec.ofChange Rows.fnPlanOverSpec)) = true := by kernel_rfl
theorem fa2 : (laidOutB Tryz.prog) = true := by kernel_rfl
theorem fa3 : (mapsRowed Tryz.prog) = true := by kernel_rfl
theorem fa4 : (Tryz.f5.params.all (Tryz.prog.readableRec ·)) = true := by kernel_rfl
theorem fa5 : (namedTie Tryz.prog Rows.fnPlanOverRow.named Rows.fnPlanOverSpec.vars) = true := by kernel_rfl
theorem fa6 : ((Rows.fnPlanOverRow.stops == [])) = true := by kernel_rfl
theorem fa7 : ((Tryz.prog.stops == [])) = true := by kernel_rfl
theorem fa8 : ((Rows.fnPlanOverRow.knobs == [])) = true := by kernel_rfl
theorem fa9 : ((Tryz.prog.stopKnobs == [])) = true := by kernel_rfl
theorem fa14 : ((Rows.fnPlanOverRow.maps == (Tryz.f5.params.toList ++ Rows.fnPlanOverSpec.plain.varTypes Tryz.prog).any (Tryz.prog.mapsRec ·))) = true := by kernel_rfl
theorem fa15 : ((Rows.fnPlanOverRow.ifaces == (Tryz.f5.params.toList ++ Rows.fnPlanOverSpec.plain.varTypes Tryz.prog).any (Tryz.prog.ifacesRec ·))) = true := by kernel_rfl
theorem fa16 : ((Rows.fnPlanOverRow.mapsOut == Tryz.prog.mapsAmong Tryz.f5.resultTypes.toList)) = true := by kernel_rfl
theorem fa17 : ((Rows.fnPlanOverRow.loops == (Tryz.f5.params.toList ++ Rows.fnPlanOverSpec.plain.varTypes Tryz.prog).any (Tryz.prog.loopsFrom ·))) = true := by kernel_rfl
theorem fa18 : ((Rows.fnPlanOverRow.wideKeys == (Tryz.f5.params.toList ++ Rows.fnPlanOverSpec.plain.varTypes Tryz.prog ++ Tryz.f5.resultTypes.toList).any (Tryz.prog.wideKeysFrom ·))) = true := by kernel_rfl
theorem fa19 : (Rows.fnPlanOverSpec.vars.all (Tryz.prog.varReadable ·)) = true := by kernel_rfl
theorem fa20 : (Tryz.f5.resultTypes.all (fun t => Tryz.prog.readableRec t && decide (t < Tryz.prog.types.size))) = true := by kernel_rfl
theorem fa21 : ((Rows.fnPlanOverRow.ifacesOut == Tryz.f5.resultTypes.toList.any (Tryz.prog.ifacesRec ·))) = true := by kernel_rfl
theorem fa22 : ((Rows.fnPlanOverRow.loopsOut == Tryz.f5.resultTypes.toList.any (Tryz.prog.loopsFrom ·))) = true := by kernel_rfl
theorem fa23 : ((Rows.fnPlanOverRow.plainKeys == Tryz.prog.plainKeys)) = true := by kernel_rfl
theorem fa24 : (Rows.fnPlanOverRow.shortTexts.isNone) = true := by kernel_rfl
theorem fa25 : (Tryz.prog.stopsHeard) = true := by kernel_rfl
theorem fa26 : (Tryz.prog.mayEnter) = true := by kernel_rfl
theorem fa27 : ((Rows.fnPlanOverRow.lifted == Tryz.prog.liftsFinal)) = true := by kernel_rfl
theorem fa28 : ((Tryz.prog.make == some Rows.fnPlanOverRow.make)) = true := by kernel_rfl
theorem fa29 : ((Rows.fnPlanOverRow.kinds == (if Rows.fnPlanOverRow.domain.isEmpty then [] else Tryz.f5.params.toList.map fun t => match Tryz.prog.underlying t with | some (.int k) => some k | _ => none))) = true := by kernel_rfl
theorem fa30 : ((Rows.fnPlanOverRow.pinned == Rows.fnPlanOverRow.pinnedBy)) = true := by kernel_rfl
theorem fa31 : ((Rows.fnPlanOverRow.veiled == (Tryz.f5.params.toList ++ Rows.fnPlanOverSpec.plain.varTypes Tryz.prog ++ Tryz.f5.resultTypes.toList).any (Tryz.prog.veiledRec ·))) = true := by kernel_rfl
theorem fa32 : (Rows.fnPlanOverRow.veiledFits Tryz.prog Tryz.f5.params.toList (Tryz.f5.params.toList ++ Rows.fnPlanOverSpec.plain.varTypes Tryz.prog ++ Tryz.f5.resultTypes.toList)) = true := by kernel_rfl
end Go.Proofs.YtefjaihaocdpcaaGreatDoor.fnPlanOver
