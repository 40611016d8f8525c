/- Closed facts of the row of FnExactPlanMerge. -/
import Derived.Test.YtefjaihaocdpcaaGreatDoorCards
import Derived.JoinedOf
import Derived.SevenTiedAt
import Derived.KernelRfl
set_option linter.unusedVariables false
set_option maxRecDepth 100000
namespace Go.Proofs.YtefjaihaocdpcaaGreatDoor.fnExactPlanMerge
open Go
theorem fa1 : (Rows.fnExactPlanMergeRow.wf (OpenSpec.ofChange Rows.fnExactPlanMergeSpec)) = true:=by kernel_rfl
theorem fa2 : (laidOutB Tryz.prog) = true:=by kernel_rfl
theorem fa3 : (mapsRowed Tryz.prog) = true:=by kernel_rfl
theorem fa4 : (Tryz.f13.params.all (Tryz.prog.readableRec ·)) = true:=by kernel_rfl
theorem fa5 : (namedTie Tryz.prog Rows.fnExactPlanMergeRow.named Rows.fnExactPlanMergeSpec.vars) = true:=by kernel_rfl
theorem fa6 : ((Rows.fnExactPlanMergeRow.stops == [])) = true:=by kernel_rfl
theorem fa7 : ((Tryz.prog.stops == [])) = true:=by kernel_rfl
theorem fa8 : ((Rows.fnExactPlanMergeRow.knobs == [])) = true:=by kernel_rfl
theorem fa9 : ((Tryz.prog.stopKnobs == [])) = true:=by kernel_rfl
theorem fa14 : ((Rows.fnExactPlanMergeRow.maps == (Tryz.f13.params.toList ++ Rows.fnExactPlanMergeSpec.plain.varTypes Tryz.prog).any (Tryz.prog.mapsRec ·))) = true:=by kernel_rfl
theorem fa15 : ((Rows.fnExactPlanMergeRow.ifaces == (Tryz.f13.params.toList ++ Rows.fnExactPlanMergeSpec.plain.varTypes Tryz.prog).any (Tryz.prog.ifacesRec ·))) = true:=by kernel_rfl
theorem fa16 : ((Rows.fnExactPlanMergeRow.mapsOut == Tryz.prog.mapsAmong Tryz.f13.resultTypes.toList)) = true:=by kernel_rfl
theorem fa17 : ((Rows.fnExactPlanMergeRow.loops == (Tryz.f13.params.toList ++ Rows.fnExactPlanMergeSpec.plain.varTypes Tryz.prog).any (Tryz.prog.loopsFrom ·))) = true:=by kernel_rfl
theorem fa18 : ((Rows.fnExactPlanMergeRow.wideKeys == (Tryz.f13.params.toList ++ Rows.fnExactPlanMergeSpec.plain.varTypes Tryz.prog ++ Tryz.f13.resultTypes.toList).any (Tryz.prog.wideKeysFrom ·))) = true:=by kernel_rfl
theorem fa19 : (Rows.fnExactPlanMergeSpec.vars.all (Tryz.prog.varReadable ·)) = true:=by kernel_rfl
theorem fa20 : (Tryz.f13.resultTypes.all (fun t=>Tryz.prog.readableRec t && decide (t < Tryz.prog.types.size))) = true:=by kernel_rfl
theorem fa21 : ((Rows.fnExactPlanMergeRow.ifacesOut == Tryz.f13.resultTypes.toList.any (Tryz.prog.ifacesRec ·))) = true:=by kernel_rfl
theorem fa22 : ((Rows.fnExactPlanMergeRow.loopsOut == Tryz.f13.resultTypes.toList.any (Tryz.prog.loopsFrom ·))) = true:=by kernel_rfl
theorem fa23 : ((Rows.fnExactPlanMergeRow.plainKeys == Tryz.prog.plainKeys)) = true:=by kernel_rfl
theorem fa24 : (Rows.fnExactPlanMergeRow.shortTexts.isNone) = true:=by kernel_rfl
theorem fa25 : (Tryz.prog.stopsHeard) = true:=by kernel_rfl
theorem fa26 : (Tryz.prog.mayEnter) = true:=by kernel_rfl
theorem fa27 : ((Rows.fnExactPlanMergeRow.lifted == Tryz.prog.liftsFinal)) = true:=by kernel_rfl
theorem fa28 : ((Tryz.prog.make == some Rows.fnExactPlanMergeRow.make)) = true:=by kernel_rfl
theorem fa29 : ((Rows.fnExactPlanMergeRow.kinds == (if Rows.fnExactPlanMergeRow.domain.isEmpty then [] else Tryz.f13.params.toList.map fun t=>match Tryz.prog.underlying t with | some (.int k)=>some k | _=>none))) = true:=by kernel_rfl
theorem fa30 : ((Rows.fnExactPlanMergeRow.pinned == Rows.fnExactPlanMergeRow.pinnedBy)) = true:=by kernel_rfl
theorem fa31 : ((Rows.fnExactPlanMergeRow.veiled == (Tryz.f13.params.toList ++ Rows.fnExactPlanMergeSpec.plain.varTypes Tryz.prog ++ Tryz.f13.resultTypes.toList).any (Tryz.prog.veiledRec ·))) = true:=by kernel_rfl
theorem fa32 : (Rows.fnExactPlanMergeRow.veiledFits Tryz.prog Tryz.f13.params.toList (Tryz.f13.params.toList ++ Rows.fnExactPlanMergeSpec.plain.varTypes Tryz.prog ++ Tryz.f13.resultTypes.toList)) = true:=by kernel_rfl
end Go.Proofs.YtefjaihaocdpcaaGreatDoor.fnExactPlanMerge
