
/- The law ExactLeast: further facts of its row. -/
import Derived.Test.YthmplgaldjpgiaaGreatDoorZ19
set_option linter.unusedVariables false
set_option linter.unusedSimpArgs false
namespace Go.Proofs.YthmplgaldjpgiaaGreatDoor.K
open Go Go.AM Go.Proofs Go.RowKit
theorem exactLeast_k1 : Rows.exactLeastUptoRow.wfByText (Rows.OpenSpec.upto Rows.exactLeastSpec) = true := by kernel_rfl
theorem exactLeast_k2 : false = Rows.exactLeastUptoRow.goesBy Tryz.prog := by kernel_rfl
theorem exactLeast_k3 : Tryz.prog.funcNamed "lorry/lorrylaw24.ExactLeast" = some 4 := by kernel_rfl
theorem exactLeast_k4 : Tryz.prog.mainIs = some (true, "1e31b3f0cad78b767cc1c6da28160433ffc31461db7f92f3eccdae58a396bfac".toList) := by kernel_rfl
theorem exactLeast_k5 : false = Tryz.prog.looks [] := by kernel_rfl
end Go.Proofs.YthmplgaldjpgiaaGreatDoor.K
