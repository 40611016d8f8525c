/- Closed facts of the row of FnPlanTake. -/
import Derived.Test.YtefjaihaocdpcaaGreatDoorCards
import Derived.JoinedOf
import Derived.SevenTiedAt
import Derived.KernelRfl
set_option linter.unusedVariables false
set_option maxRecDepth 100000
namespace Go.Proofs.YtefjaihaocdpcaaGreatDoor.fnPlanTake
open Go
theorem fa12 : ((Rows.fnPlanTakeRow.recurses == Tryz.prog.recurses 8)) = true := by kernel_rfl
end Go.Proofs.YtefjaihaocdpcaaGreatDoor.fnPlanTake
