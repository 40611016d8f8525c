/- Closed facts of the row of FnExactPlanMerge. -/
import Derived.Test.YtefjaihaocdpcaaGreatDoorCards
import Derived.JoinedOf
import Derived.SevenTiedAt
import Derived.KernelRfl
set_option linter.unusedVariables false
set_option maxRecDepth 100000
namespace Go.Proofs.YtefjaihaocdpcaaGreatDoor.fnExactPlanMerge
open Go
theorem fa11 : ((Rows.fnExactPlanMergeRow.unfollowed == Tryz.prog.unfollowed 13)) = true:=by kernel_rfl
end Go.Proofs.YtefjaihaocdpcaaGreatDoor.fnExactPlanMerge
