
/- The law ReoptChecks: further facts of its row. -/
import Derived.Test.YtcpmilhkineciaaGreatDoorZ22
set_option linter.unusedVariables false
set_option linter.unusedSimpArgs false
namespace Go.Proofs.YtcpmilhkineciaaGreatDoor.K
open Go Go.AM Go.Proofs Go.RowKit
theorem reoptChecks_k1 : Rows.reoptChecksUptoRow.wfByText (Rows.OpenSpec.upto Rows.reoptChecksSpec) = true := by kernel_rfl
theorem reoptChecks_k2 : false = Rows.reoptChecksUptoRow.goesBy Tryz.prog := by kernel_rfl
theorem reoptChecks_k3 : Tryz.prog.funcNamed "lorry/lorrylaw48.ReoptChecks" = some 7 := by kernel_rfl
theorem reoptChecks_k4 : Tryz.prog.mainIs = some (true, "5b163dea9a55d1ee639174eb2ff06ecc05e44d3985e367b380ec3574926d0eb2".toList) := by kernel_rfl
theorem reoptChecks_k5 : false = Tryz.prog.looks [] := by kernel_rfl
end Go.Proofs.YtcpmilhkineciaaGreatDoor.K
