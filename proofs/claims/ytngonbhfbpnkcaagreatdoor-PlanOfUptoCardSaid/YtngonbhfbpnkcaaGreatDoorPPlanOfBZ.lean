
/- The law PlanOf: further facts of its row. -/
import Derived.Test.YtngonbhfbpnkcaaGreatDoorZ18
set_option linter.unusedVariables false
set_option linter.unusedSimpArgs false
namespace Go.Proofs.YtngonbhfbpnkcaaGreatDoor.K
open Go Go.AM Go.Proofs Go.RowKit
theorem planOf_k1 : Rows.planOfUptoRow.wfByText (Rows.OpenSpec.upto Rows.planOfSpec) = true := by kernel_rfl
theorem planOf_k2 : false = Rows.planOfUptoRow.goesBy Tryz.prog := by kernel_rfl
theorem planOf_k3 : Tryz.prog.funcNamed "lorry/lorrylaw23.PlanOf" = some 11 := by kernel_rfl
theorem planOf_k4 : Tryz.prog.mainIs = some (true, "724531d32426ce654e7285be7fbb7bbb0ff51425ea23325b0915c31279d6a94b".toList) := by kernel_rfl
theorem planOf_k5 : true = Tryz.prog.looks [] := by kernel_rfl
end Go.Proofs.YtngonbhfbpnkcaaGreatDoor.K
