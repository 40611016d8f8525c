/- Closed facts of the row of FnPlanMerge. -/
import Derived.Test.YtefjaihaocdpcaaGreatDoorCards
import Derived.JoinedOf
import Derived.SevenTiedAt
import Derived.KernelRfl
set_option linter.unusedVariables false
set_option maxRecDepth 100000
namespace Go.Proofs.YtefjaihaocdpcaaGreatDoor.fnPlanMerge
open Go
theorem fa12 : ((Rows.fnPlanMergeRow.recurses == Tryz.prog.recurses 9)) = true:=by kernel_rfl
end Go.Proofs.YtefjaihaocdpcaaGreatDoor.fnPlanMerge
