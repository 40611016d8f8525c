/- Closed facts of the row of FnPlanText. -/
import Derived.Test.YtefjaihaocdpcaaGreatDoorCards
import Derived.JoinedOf
import Derived.SevenTiedAt
import Derived.KernelRfl
set_option linter.unusedVariables false
set_option maxRecDepth 100000
namespace Go.Proofs.YtefjaihaocdpcaaGreatDoor.fnPlanText
open Go
theorem fa12:((Rows.fnPlanTextRow.recurses==Tryz.prog.recurses 14))=true:=by kernel_rfl
end Go.Proofs.YtefjaihaocdpcaaGreatDoor.fnPlanText
