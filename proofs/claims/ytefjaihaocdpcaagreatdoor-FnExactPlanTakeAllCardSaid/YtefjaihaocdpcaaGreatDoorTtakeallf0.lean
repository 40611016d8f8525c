/- Closed facts of the row of FnExactPlanTakeAll. -/
import Derived.Test.YtefjaihaocdpcaaGreatDoorCards
import Derived.JoinedOf
import Derived.SevenTiedAt
import Derived.KernelRfl
set_option linter.unusedVariables false
set_option maxRecDepth 100000
namespace Go.Proofs.YtefjaihaocdpcaaGreatDoor.fnExactPlanTakeAll
open Go
theorem fa1 : (Rows.fnExactPlanTakeAllRow.wf (OpenSpec.ofChange Rows.fnExactPlanTakeAllSpec)) = true := by kernel_rfl
theorem fa2 : (laidOutB Tryz.prog) = true := by kernel_rfl
theorem fa3 : (mapsRowed Tryz.prog) = true := by kernel_rfl
theorem fa4 : (Tryz.f15.params.all (Tryz.prog.readableRec ·)) = true := by kernel_rfl
theorem fa5 : (namedTie Tryz.prog Rows.fnExactPlanTakeAllRow.named Rows.fnExactPlanTakeAllSpec.vars) = true := by kernel_rfl
theorem fa6 : ((Rows.fnExactPlanTakeAllRow.stops == [])) = true := by kernel_rfl
theorem fa7 : ((Tryz.prog.stops == [])) = true := by kernel_rfl
theorem fa8 : ((Rows.fnExactPlanTakeAllRow.knobs == [])) = true := by kernel_rfl
theorem fa9 : ((Tryz.prog.stopKnobs == [])) = true := by kernel_rfl
theorem fa14 : ((Rows.fnExactPlanTakeAllRow.maps == (Tryz.f15.params.toList ++ Rows.fnExactPlanTakeAllSpec.plain.varTypes Tryz.prog).any (Tryz.prog.mapsRec ·))) = true := by kernel_rfl
theorem fa15 : ((Rows.fnExactPlanTakeAllRow.ifaces == (Tryz.f15.params.toList ++ Rows.fnExactPlanTakeAllSpec.plain.varTypes Tryz.prog).any (Tryz.prog.ifacesRec ·))) = true := by kernel_rfl
theorem fa16 : ((Rows.fnExactPlanTakeAllRow.mapsOut == Tryz.prog.mapsAmong Tryz.f15.resultTypes.toList)) = true := by kernel_rfl
theorem fa17 : ((Rows.fnExactPlanTakeAllRow.loops == (Tryz.f15.params.toList ++ Rows.fnExactPlanTakeAllSpec.plain.varTypes Tryz.prog).any (Tryz.prog.loopsFrom ·))) = true := by kernel_rfl
theorem fa18 : ((Rows.fnExactPlanTakeAllRow.wideKeys == (Tryz.f15.params.toList ++ Rows.fnExactPlanTakeAllSpec.plain.varTypes Tryz.prog ++ Tryz.f15.resultTypes.toList).any (Tryz.prog.wideKeysFrom ·))) = true := by kernel_rfl
theorem fa19 : (Rows.fnExactPlanTakeAllSpec.vars.all (Tryz.prog.varReadable ·)) = true := by kernel_rfl
theorem fa20 : (Tryz.f15.resultTypes.all (fun t => Tryz.prog.readableRec t && decide (t < Tryz.prog.types.size))) = true := by kernel_rfl
theorem fa21 : ((Rows.fnExactPlanTakeAllRow.ifacesOut == Tryz.f15.resultTypes.toList.any (Tryz.prog.ifacesRec ·))) = true := by kernel_rfl
theorem fa22 : ((Rows.fnExactPlanTakeAllRow.loopsOut == Tryz.f15.resultTypes.toList.any (Tryz.prog.loopsFrom ·))) = true := by kernel_rfl
theorem fa23 : ((Rows.fnExactPlanTakeAllRow.plainKeys == Tryz.prog.plainKeys)) = true := by kernel_rfl
theorem fa24 : (Rows.fnExactPlanTakeAllRow.shortTexts.isNone) = true := by kernel_rfl
theorem fa25 : (Tryz.prog.stopsHeard) = true := by kernel_rfl
theorem fa26 : (Tryz.prog.mayEnter) = true := by kernel_rfl
theorem fa27 : ((Rows.fnExactPlanTakeAllRow.lifted == Tryz.prog.liftsFinal)) = true := by kernel_rfl
theorem fa28 : ((Tryz.prog.make == some Rows.fnExactPlanTakeAllRow.make)) = true := by kernel_rfl
theorem fa29 : ((Rows.fnExactPlanTakeAllRow.kinds == (if Rows.fnExactPlanTakeAllRow.domain.isEmpty then [] else Tryz.f15.params.toList.map fun t => match Tryz.prog.underlying t with | some (.int k) => some k | _ => none))) = true := by kernel_rfl
theorem fa30 : ((Rows.fnExactPlanTakeAllRow.pinned == Rows.fnExactPlanTakeAllRow.pinnedBy)) = true := by kernel_rfl
theorem fa31 : ((Rows.fnExactPlanTakeAllRow.veiled == (Tryz.f15.params.toList ++ Rows.fnExactPlanTakeAllSpec.plain.varTypes Tryz.prog ++ Tryz.f15.resultTypes.toList).any (Tryz.prog.veiledRec ·))) = true := by kernel_rfl
theorem fa32 : (Rows.fnExactPlanTakeAllRow.veiledFits Tryz.prog Tryz.f15.params.toList (Tryz.f15.params.toList ++ Rows.fnExactPlanTakeAllSpec.plain.varTypes Tryz.prog ++ Tryz.f15.resultTypes.toList)) = true := by kernel_rfl
end Go.Proofs.YtefjaihaocdpcaaGreatDoor.fnExactPlanTakeAll
