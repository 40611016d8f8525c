/- Closed facts of the row of FnExactPlanTakeAll. -/
import Derived.Test.YtefjaihaocdpcaaGreatDoorCards
import Derived.JoinedOf
import Derived.SevenTiedAt
import Derived.KernelRfl
set_option linter.unusedVariables false
set_option maxRecDepth 100000
namespace Go.Proofs.YtefjaihaocdpcaaGreatDoor.fnExactPlanTakeAll
open Go
theorem fa10 : ((Rows.fnExactPlanTakeAllRow.inPlace == Tryz.prog.inPlace 15)) = true := by kernel_rfl
end Go.Proofs.YtefjaihaocdpcaaGreatDoor.fnExactPlanTakeAll
