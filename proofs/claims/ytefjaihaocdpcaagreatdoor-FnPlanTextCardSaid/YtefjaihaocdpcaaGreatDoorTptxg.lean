/- Closed facts of the row of FnPlanText, joined. -/
import Derived.JoinedOf
import Derived.SevenTiedAt
import Derived.KernelRfl
import Derived.Test.YtefjaihaocdpcaaGreatDoorTptxf0
import Derived.Test.YtefjaihaocdpcaaGreatDoorTptxf1
import Derived.Test.YtefjaihaocdpcaaGreatDoorTptxf2
import Derived.Test.YtefjaihaocdpcaaGreatDoorTptxf3
import Derived.Test.YtefjaihaocdpcaaGreatDoorTptxf4
set_option linter.unusedVariables false
set_option maxRecDepth 100000
namespace Go.Proofs.YtefjaihaocdpcaaGreatDoor.fnPlanText
open Go
theorem named:Tryz.checked.prog.funcNamed Rows.fnPlanTextRow.func=some 14:=by kernel_rfl
theorem inst:Tryz.f14.isInstance Tryz.checked.prog Rows.fnPlanTextRow.origin Rows.fnPlanTextRow.targs:=of_decide_eq_true (by kernel_rfl)
theorem wrap:Tryz.f14.isWrapper Tryz.checked.prog Rows.fnPlanTextRow.wrapper Rows.fnPlanTextRow.mainSum:=by unfold Func.isWrapper;first|(rw[if_pos (by decide +kernel)];kernel_rfl)|(rw[if_neg (by decide +kernel)];exact⟨rfl,rfl⟩)
theorem wfText:Rows.fnPlanTextRow.wfByText (OpenSpec.ofChange Rows.fnPlanTextSpec)=true:=by kernel_rfl
theorem mainIs:Tryz.checked.prog.mainIs=some (true, "41bd0f50d487431789ddaad2af5a40940f8e4c50e6845c8b58ff594bc5ec8495".toList):=by kernel_rfl
theorem looked:true=Tryz.checked.prog.looks []:=by kernel_rfl
theorem standIns:(Tryz.f14.params.toList.all fun u=>!Tryz.prog.wantsStandIn u)=true:=by kernel_rfl
theorem goes:false=Rows.fnPlanTextRow.goesBy Tryz.checked.prog:=by kernel_rfl
theorem and_t{a b:Bool}(h:a=true)(h2:b=true):(a&&b)=true:=by rw[h,h2];rfl
theorem closed:joinedFacts Tryz.prog 14 Tryz.f14 Rows.fnPlanTextSpec Rows.fnPlanTextRow=true:=(and_t (and_t (and_t (and_t (and_t (and_t (and_t (and_t (and_t (and_t (and_t (and_t (and_t (and_t (and_t (and_t (and_t (and_t (and_t (and_t (and_t (and_t (and_t (and_t (and_t (and_t (and_t (and_t (and_t (and_t (and_t fa1 fa2) fa3) fa4) fa5) fa6) fa7) fa8) fa9) fa10) fa11) fa12) fa13) fa14) fa15) fa16) fa17) fa18) fa19) fa20) fa21) fa22) fa23) fa24) fa25) fa26) fa27) fa28) fa29) fa30) fa31) fa32)
end Go.Proofs.YtefjaihaocdpcaaGreatDoor.fnPlanText
