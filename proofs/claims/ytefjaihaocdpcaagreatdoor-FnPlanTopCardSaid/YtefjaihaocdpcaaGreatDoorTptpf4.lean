/- Closed facts of the row of FnPlanTop. -/
import Derived.Test.YtefjaihaocdpcaaGreatDoorCards
import Derived.JoinedOf
import Derived.SevenTiedAt
import Derived.KernelRfl
set_option linter.unusedVariables false
set_option maxRecDepth 100000
namespace Go.Proofs.YtefjaihaocdpcaaGreatDoor.fnPlanTop
open Go
theorem fa13 : ((Rows.fnPlanTopRow.named == Tryz.prog.varsNamed 11)) = true:=by kernel_rfl
end Go.Proofs.YtefjaihaocdpcaaGreatDoor.fnPlanTop
