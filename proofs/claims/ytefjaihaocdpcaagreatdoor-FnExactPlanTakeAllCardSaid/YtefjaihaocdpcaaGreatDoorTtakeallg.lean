/- Closed facts of the row of FnExactPlanTakeAll, joined. -/
import Derived.JoinedOf
import Derived.SevenTiedAt
import Derived.KernelRfl
import Derived.Test.YtefjaihaocdpcaaGreatDoorTtakeallf0
import Derived.Test.YtefjaihaocdpcaaGreatDoorTtakeallf1
import Derived.Test.YtefjaihaocdpcaaGreatDoorTtakeallf2
import Derived.Test.YtefjaihaocdpcaaGreatDoorTtakeallf3
import Derived.Test.YtefjaihaocdpcaaGreatDoorTtakeallf4
set_option linter.unusedVariables false
set_option maxRecDepth 100000
namespace Go.Proofs.YtefjaihaocdpcaaGreatDoor.fnExactPlanTakeAll
open Go
theorem named : Tryz.checked.prog.funcNamed Rows.fnExactPlanTakeAllRow.func = some 15 := by kernel_rfl
theorem inst : Tryz.f15.isInstance Tryz.checked.prog Rows.fnExactPlanTakeAllRow.origin Rows.fnExactPlanTakeAllRow.targs := of_decide_eq_true (by kernel_rfl)
theorem wrap : Tryz.f15.isWrapper Tryz.checked.prog Rows.fnExactPlanTakeAllRow.wrapper Rows.fnExactPlanTakeAllRow.mainSum := by unfold Func.isWrapper; first | (rw [if_pos (by decide +kernel)]; kernel_rfl) | (rw [if_neg (by decide +kernel)]; exact ⟨rfl, rfl⟩)
theorem wfText : Rows.fnExactPlanTakeAllRow.wfByText (OpenSpec.ofChange Rows.fnExactPlanTakeAllSpec) = true := by kernel_rfl
theorem mainIs : Tryz.checked.prog.mainIs = some (true, "41bd0f50d487431789ddaad2af5a40940f8e4c50e6845c8b58ff594bc5ec8495".toList) := by kernel_rfl
theorem looked : true = Tryz.checked.prog.looks [] := by kernel_rfl
theorem standIns : (Tryz.f15.params.toList.all fun u => !Tryz.prog.wantsStandIn u) = true := by kernel_rfl
theorem goes : false = Rows.fnExactPlanTakeAllRow.goesBy Tryz.checked.prog := by kernel_rfl
theorem and_t {a b : Bool} (h : a = true) (h2 : b = true) : (a && b) = true := by rw [h, h2]; rfl
theorem closed : joinedFacts Tryz.prog 15 Tryz.f15 Rows.fnExactPlanTakeAllSpec Rows.fnExactPlanTakeAllRow = true := (and_t (and_t (and_t (and_t (and_t (and_t (and_t (and_t (and_t (and_t (and_t (and_t (and_t (and_t (and_t (and_t (and_t (and_t (and_t (and_t (and_t (and_t (and_t (and_t (and_t (and_t (and_t (and_t (and_t (and_t (and_t fa1 fa2) fa3) fa4) fa5) fa6) fa7) fa8) fa9) fa10) fa11) fa12) fa13) fa14) fa15) fa16) fa17) fa18) fa19) fa20) fa21) fa22) fa23) fa24) fa25) fa26) fa27) fa28) fa29) fa30) fa31) fa32)
end Go.Proofs.YtefjaihaocdpcaaGreatDoor.fnExactPlanTakeAll
