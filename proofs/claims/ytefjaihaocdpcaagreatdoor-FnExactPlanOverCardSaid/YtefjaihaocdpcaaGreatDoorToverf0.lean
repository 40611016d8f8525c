/- Closed facts of the row of FnExactPlanOver. -/
import Derived.Test.YtefjaihaocdpcaaGreatDoorCards
import Derived.JoinedOf
import Derived.SevenTiedAt
import Derived.KernelRfl
set_option linter.unusedVariables false
set_option maxRecDepth 100000
namespace Go.Proofs.YtefjaihaocdpcaaGreatDoor.fnExactPlanOver
open Go
theorem fa1 : (Rows.fnExactPlanOverRow.wf (OpenSpec.ofChange Rows.fnExactPlanOverSpec)) = true := by kernel_rfl
theorem fa2 : (laidOutB Tryz.prog) = true := by kernel_rfl
theorem fa3 : (mapsRowed Tryz.prog) = true := by kernel_rfl
theorem fa4 : (Tryz.f6.params.all (Tryz.prog.readableRec ·)) = true := by kernel_rfl
theorem fa5 : (namedTie Tryz.prog Rows.fnExactPlanOverRow.named Rows.fnExactPlanOverSpec.vars) = true := by kernel_rfl
theorem fa6 : ((Rows.fnExactPlanOverRow.stops == [])) = true := by kernel_rfl
theorem fa7 : ((Tryz.prog.stops == [])) = true := by kernel_rfl
theorem fa8 : ((Rows.fnExactPlanOverRow.knobs == [])) = true := by kernel_rfl
theorem fa9 : ((Tryz.prog.stopKnobs == [])) = true := by kernel_rfl
theorem fa14 : ((Rows.fnExactPlanOverRow.maps == (Tryz.f6.params.toList ++ Rows.fnExactPlanOverSpec.plain.varTypes Tryz.prog).any (Tryz.prog.mapsRec ·))) = true := by kernel_rfl
theorem fa15 : ((Rows.fnExactPlanOverRow.ifaces == (Tryz.f6.params.toList ++ Rows.fnExactPlanOverSpec.plain.varTypes Tryz.prog).any (Tryz.prog.ifacesRec ·))) = true := by kernel_rfl
theorem fa16 : ((Rows.fnExactPlanOverRow.mapsOut == Tryz.prog.mapsAmong Tryz.f6.resultTypes.toList)) = true := by kernel_rfl
theorem fa17 : ((Rows.fnExactPlanOverRow.loops == (Tryz.f6.params.toList ++ Rows.fnExactPlanOverSpec.plain.varTypes Tryz.prog).any (Tryz.prog.loopsFrom ·))) = true := by kernel_rfl
theorem fa18 : ((Rows.fnExactPlanOverRow.wideKeys == (Tryz.f6.params.toList ++ Rows.fnExactPlanOverSpec.plain.varTypes Tryz.prog ++ Tryz.f6.resultTypes.toList).any (Tryz.prog.wideKeysFrom ·))) = true := by kernel_rfl
theorem fa19 : (Rows.fnExactPlanOverSpec.vars.all (Tryz.prog.varReadable ·)) = true := by kernel_rfl
theorem fa20 : (Tryz.f6.resultTypes.all (fun t => Tryz.prog.readableRec t && decide (t < Tryz.prog.types.size))) = true := by kernel_rfl
theorem fa21 : ((Rows.fnExactPlanOverRow.ifacesOut == Tryz.f6.resultTypes.toList.any (Tryz.prog.ifacesRec ·))) = true := by kernel_rfl
theorem fa22 : ((Rows.fnExactPlanOverRow.loopsOut == Tryz.f6.resultTypes.toList.any (Tryz.prog.loopsFrom ·))) = true := by kernel_rfl
theorem fa23 : ((Rows.fnExactPlanOverRow.plainKeys == Tryz.prog.plainKeys)) = true := by kernel_rfl
theorem fa24 : (Rows.fnExactPlanOverRow.shortTexts.isNone) = true := by kernel_rfl
theorem fa25 : (Tryz.prog.stopsHeard) = true := by kernel_rfl
theorem fa26 : (Tryz.prog.mayEnter) = true := by kernel_rfl
theorem fa27 : ((Rows.fnExactPlanOverRow.lifted == Tryz.prog.liftsFinal)) = true := by kernel_rfl
theorem fa28 : ((Tryz.prog.make == some Rows.fnExactPlanOverRow.make)) = true := by kernel_rfl
theorem fa29 : ((Rows.fnExactPlanOverRow.kinds == (if Rows.fnExactPlanOverRow.domain.isEmpty then [] else Tryz.f6.params.toList.map fun t => match Tryz.prog.underlying t with | some (.int k) => some k | _ => none))) = true := by kernel_rfl
theorem fa30 : ((Rows.fnExactPlanOverRow.pinned == Rows.fnExactPlanOverRow.pinnedBy)) = true := by kernel_rfl
theorem fa31 : ((Rows.fnExactPlanOverRow.veiled == (Tryz.f6.params.toList ++ Rows.fnExactPlanOverSpec.plain.varTypes Tryz.prog ++ Tryz.f6.resultTypes.toList).any (Tryz.prog.veiledRec ·))) = true := by kernel_rfl
theorem fa32 : (Rows.fnExactPlanOverRow.veiledFits Tryz.prog Tryz.f6.params.toList (Tryz.f6.params.toList ++ Rows.fnExactPlanOverSpec.plain.varTypes Tryz.prog ++ Tryz.f6.resultTypes.toList)) = true := by kernel_rfl
end Go.Proofs.YtefjaihaocdpcaaGreatDoor.fnExactPlanOver
