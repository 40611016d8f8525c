/- Closed facts of the row of FnExactPlanPathOf. -/
import Derived.Test.YtefjaihaocdpcaaGreatDoorCards
import Derived.JoinedOf
import Derived.SevenTiedAt
import Derived.KernelRfl
set_option linter.unusedVariables false
set_option maxRecDepth 100000
namespace Go.Proofs.YtefjaihaocdpcaaGreatDoor.fnExactPlanPathOf
open Go
theorem fa1 : (Rows.fnExactPlanPathOfRow.wf (OpenSpec.ofChange Rows.fnExactPlanPathOfSpec)) = true := by kernel_rfl
theorem fa2 : (laidOutB Tryz.prog) = true := by kernel_rfl
theorem fa3 : (mapsRowed Tryz.prog) = true := by kernel_rfl
theorem fa4 : (Tryz.f7.params.all (Tryz.prog.readableRec ·)) = true := by kernel_rfl
theorem fa5 : (namedTie Tryz.prog Rows.fnExactPlanPathOfRow.named Rows.fnExactPlanPathOfSpec.vars) = true := by kernel_rfl
theorem fa6 : ((Rows.fnExactPlanPathOfRow.stops == [])) = true := by kernel_rfl
theorem fa7 : ((Tryz.prog.stops == [])) = true := by kernel_rfl
theorem fa8 : ((Rows.fnExactPlanPathOfRow.knobs == [])) = true := by kernel_rfl
theorem fa9 : ((Tryz.prog.stopKnobs == [])) = true := by kernel_rfl
theorem fa14 : ((Rows.fnExactPlanPathOfRow.maps == (Tryz.f7.params.toList ++ Rows.fnExactPlanPathOfSpec.plain.varTypes Tryz.prog).any (Tryz.prog.mapsRec ·))) = true := by kernel_rfl
theorem fa15 : ((Rows.fnExactPlanPathOfRow.ifaces == (Tryz.f7.params.toList ++ Rows.fnExactPlanPathOfSpec.plain.varTypes Tryz.prog).any (Tryz.prog.ifacesRec ·))) = true := by kernel_rfl
theorem fa16 : ((Rows.fnExactPlanPathOfRow.mapsOut == Tryz.prog.mapsAmong Tryz.f7.resultTypes.toList)) = true := by kernel_rfl
theorem fa17 : ((Rows.fnExactPlanPathOfRow.loops == (Tryz.f7.params.toList ++ Rows.fnExactPlanPathOfSpec.plain.varTypes Tryz.prog).any (Tryz.prog.loopsFrom ·))) = true := by kernel_rfl
theorem fa18 : ((Rows.fnExactPlanPathOfRow.wideKeys == (Tryz.f7.params.toList ++ Rows.fnExactPlanPathOfSpec.plain.varTypes Tryz.prog ++ Tryz.f7.resultTypes.toList).any (Tryz.prog.wideKeysFrom ·))) = true := by kernel_rfl
theorem fa19 : (Rows.fnExactPlanPathOfSpec.vars.all (Tryz.prog.varReadable ·)) = true := by kernel_rfl
theorem fa20 : (Tryz.f7.resultTypes.all (fun t => Tryz.prog.readableRec t && decide (t < Tryz.prog.types.size))) = true := by kernel_rfl
theorem fa21 : ((Rows.fnExactPlanPathOfRow.ifacesOut == Tryz.f7.resultTypes.toList.any (Tryz.prog.ifacesRec ·))) = true := by kernel_rfl
theorem fa22 : ((Rows.fnExactPlanPathOfRow.loopsOut == Tryz.f7.resultTypes.toList.any (Tryz.prog.loopsFrom ·))) = true := by kernel_rfl
theorem fa23 : ((Rows.fnExactPlanPathOfRow.plainKeys == Tryz.prog.plainKeys)) = true := by kernel_rfl
theorem fa24 : (Rows.fnExactPlanPathOfRow.shortTexts.isNone) = true := by kernel_rfl
theorem fa25 : (Tryz.prog.stopsHeard) = true := by kernel_rfl
theorem fa26 : (Tryz.prog.mayEnter) = true := by kernel_rfl
theorem fa27 : ((Rows.fnExactPlanPathOfRow.lifted == Tryz.prog.liftsFinal)) = true := by kernel_rfl
theorem fa28 : ((Tryz.prog.make == some Rows.fnExactPlanPathOfRow.make)) = true := by kernel_rfl
theorem fa29 : ((Rows.fnExactPlanPathOfRow.kinds == (if Rows.fnExactPlanPathOfRow.domain.isEmpty then [] else Tryz.f7.params.toList.map fun t => match Tryz.prog.underlying t with | some (.int k) => some k | _ => none))) = true := by kernel_rfl
theorem fa30 : ((Rows.fnExactPlanPathOfRow.pinned == Rows.fnExactPlanPathOfRow.pinnedBy)) = true := by kernel_rfl
theorem fa31 : ((Rows.fnExactPlanPathOfRow.veiled == (Tryz.f7.params.toList ++ Rows.fnExactPlanPathOfSpec.plain.varTypes Tryz.prog ++ Tryz.f7.resultTypes.toList).any (Tryz.prog.veiledRec ·))) = true := by kernel_rfl
theorem fa32 : (Rows.fnExactPlanPathOfRow.veiledFits Tryz.prog Tryz.f7.params.toList (Tryz.f7.params.toList ++ Rows.fnExactPlanPathOfSpec.plain.varTypes Tryz.prog ++ Tryz.f7.resultTypes.toList)) = true := by kernel_rfl
end Go.Proofs.YtefjaihaocdpcaaGreatDoor.fnExactPlanPathOf
