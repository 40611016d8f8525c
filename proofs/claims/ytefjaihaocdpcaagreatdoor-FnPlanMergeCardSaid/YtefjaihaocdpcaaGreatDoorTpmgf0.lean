/- Closed facts of the row of FnPlanMerge. -/
import Derived.Test.YtefjaihaocdpcaaGreatDoorCards
import Derived.JoinedOf
import Derived.SevenTiedAt
import Derived.KernelRfl
set_option linter.unusedVariables false
set_option maxRecDepth 100000
namespace Go.Proofs.YtefjaihaocdpcaaGreatDoor.fnPlanMerge
open Go
theorem fa1 : (Rows.fnPlanMergeRow.wf (OpenSpec.ofChange Rows.fnPlanMergeSpec)) = true:=by kernel_rfl
theorem fa2 : (laidOutB Tryz.prog) = true:=by kernel_rfl
theorem fa3 : (mapsRowed Tryz.prog) = true:=by kernel_rfl
theorem fa4 : (Tryz.f9.params.all (Tryz.prog.readableRec ·)) = true:=by kernel_rfl
theorem fa5 : (namedTie Tryz.prog Rows.fnPlanMergeRow.named Rows.fnPlanMergeSpec.vars) = true:=by kernel_rfl
theorem fa6 : ((Rows.fnPlanMergeRow.stops == [])) = true:=by kernel_rfl
theorem fa7 : ((Tryz.prog.stops == [])) = true:=by kernel_rfl
theorem fa8 : ((Rows.fnPlanMergeRow.knobs == [])) = true:=by kernel_rfl
theorem fa9 : ((Tryz.prog.stopKnobs == [])) = true:=by kernel_rfl
theorem fa14 : ((Rows.fnPlanMergeRow.maps == (Tryz.f9.params.toList ++ Rows.fnPlanMergeSpec.plain.varTypes Tryz.prog).any (Tryz.prog.mapsRec ·))) = true:=by kernel_rfl
theorem fa15 : ((Rows.fnPlanMergeRow.ifaces == (Tryz.f9.params.toList ++ Rows.fnPlanMergeSpec.plain.varTypes Tryz.prog).any (Tryz.prog.ifacesRec ·))) = true:=by kernel_rfl
theorem fa16 : ((Rows.fnPlanMergeRow.mapsOut == Tryz.prog.mapsAmong Tryz.f9.resultTypes.toList)) = true:=by kernel_rfl
theorem fa17 : ((Rows.fnPlanMergeRow.loops == (Tryz.f9.params.toList ++ Rows.fnPlanMergeSpec.plain.varTypes Tryz.prog).any (Tryz.prog.loopsFrom ·))) = true:=by kernel_rfl
theorem fa18 : ((Rows.fnPlanMergeRow.wideKeys == (Tryz.f9.params.toList ++ Rows.fnPlanMergeSpec.plain.varTypes Tryz.prog ++ Tryz.f9.resultTypes.toList).any (Tryz.prog.wideKeysFrom ·))) = true:=by kernel_rfl
theorem fa19 : (Rows.fnPlanMergeSpec.vars.all (Tryz.prog.varReadable ·)) = true:=by kernel_rfl
theorem fa20 : (Tryz.f9.resultTypes.all (fun t=>Tryz.prog.readableRec t && decide (t < Tryz.prog.types.size))) = true:=by kernel_rfl
theorem fa21 : ((Rows.fnPlanMergeRow.ifacesOut == Tryz.f9.resultTypes.toList.any (Tryz.prog.ifacesRec ·))) = true:=by kernel_rfl
theorem fa22 : ((Rows.fnPlanMergeRow.loopsOut == Tryz.f9.resultTypes.toList.any (Tryz.prog.loopsFrom ·))) = true:=by kernel_rfl
theorem fa23 : ((Rows.fnPlanMergeRow.plainKeys == Tryz.prog.plainKeys)) = true:=by kernel_rfl
theorem fa24 : (Rows.fnPlanMergeRow.shortTexts.isNone) = true:=by kernel_rfl
theorem fa25 : (Tryz.prog.stopsHeard) = true:=by kernel_rfl
theorem fa26 : (Tryz.prog.mayEnter) = true:=by kernel_rfl
theorem fa27 : ((Rows.fnPlanMergeRow.lifted == Tryz.prog.liftsFinal)) = true:=by kernel_rfl
theorem fa28 : ((Tryz.prog.make == some Rows.fnPlanMergeRow.make)) = true:=by kernel_rfl
theorem fa29 : ((Rows.fnPlanMergeRow.kinds == (if Rows.fnPlanMergeRow.domain.isEmpty then [] else Tryz.f9.params.toList.map fun t=>match Tryz.prog.underlying t with | some (.int k)=>some k | _=>none))) = true:=by kernel_rfl
theorem fa30 : ((Rows.fnPlanMergeRow.pinned == Rows.fnPlanMergeRow.pinnedBy)) = true:=by kernel_rfl
theorem fa31 : ((Rows.fnPlanMergeRow.veiled == (Tryz.f9.params.toList ++ Rows.fnPlanMergeSpec.plain.varTypes Tryz.prog ++ Tryz.f9.resultTypes.toList).any (Tryz.prog.veiledRec ·))) = true:=by kernel_rfl
theorem fa32 : (Rows.fnPlanMergeRow.veiledFits Tryz.prog Tryz.f9.params.toList (Tryz.f9.params.toList ++ Rows.fnPlanMergeSpec.plain.varTypes Tryz.prog ++ Tryz.f9.resultTypes.toList)) = true:=by kernel_rfl
end Go.Proofs.YtefjaihaocdpcaaGreatDoor.fnPlanMerge
