/- Closed facts of the row of FnExactPlanTake. -/
import Derived.Test.YtefjaihaocdpcaaGreatDoorCards
import Derived.JoinedOf
import Derived.SevenTiedAt
import Derived.KernelRfl
set_option linter.unusedVariables false
set_option maxRecDepth 100000
namespace Go.Proofs.YtefjaihaocdpcaaGreatDoor.fnExactPlanTake
open Go
theorem fa11 : ((Rows.fnExactPlanTakeRow.unfollowed == Tryz.prog.unfollowed 12)) = true := by kernel_rfl
end Go.Proofs.YtefjaihaocdpcaaGreatDoor.fnExactPlanTake
