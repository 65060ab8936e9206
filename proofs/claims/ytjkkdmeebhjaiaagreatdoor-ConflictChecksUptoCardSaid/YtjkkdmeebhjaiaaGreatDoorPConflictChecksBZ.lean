
/- The law ConflictChecks: further facts of its row. -/
import Derived.Test.YtjkkdmeebhjaiaaGreatDoorZ19
set_option linter.unusedVariables false
set_option linter.unusedSimpArgs false
namespace Go.Proofs.YtjkkdmeebhjaiaaGreatDoor.K
open Go Go.AM Go.Proofs Go.RowKit
theorem conflictChecks_k1 : Rows.conflictChecksUptoRow.wfByText (Rows.OpenSpec.upto Rows.conflictChecksSpec) = true := by kernel_rfl
theorem conflictChecks_k2 : false = Rows.conflictChecksUptoRow.goesBy Tryz.prog := by kernel_rfl
theorem conflictChecks_k3 : Tryz.prog.funcNamed "lorry/lorrylaw50.ConflictChecks" = some 4 := by kernel_rfl
theorem conflictChecks_k4 : Tryz.prog.mainIs = some (true, "ad4b7874777524824feb8b799edab471e4194b16822c0824ba3771b55d9be586".toList) := by kernel_rfl
theorem conflictChecks_k5 : false = Tryz.prog.looks [] := by kernel_rfl
end Go.Proofs.YtjkkdmeebhjaiaaGreatDoor.K
