
/- The law ConflictKeeps: further facts of its row. -/
import Derived.Test.YtjkkdmeebhjaiaaGreatDoorI18
set_option linter.unusedVariables false
set_option linter.unusedSimpArgs false
namespace Go.Proofs.YtjkkdmeebhjaiaaGreatDoor.K
open Go Go.AM Go.Proofs Go.RowKit
theorem conflictKeeps_k1 : Rows.conflictKeepsUptoRow.wfByText (Rows.OpenSpec.upto Rows.conflictKeepsSpec) = true := by kernel_rfl
theorem conflictKeeps_k2 : false = Rows.conflictKeepsUptoRow.goesBy Tryz.prog := by kernel_rfl
theorem conflictKeeps_k3 : Tryz.prog.funcNamed "lorry/lorrylaw50.ConflictKeeps" = some 3 := by kernel_rfl
theorem conflictKeeps_k4 : Tryz.prog.mainIs = some (true, "ad4b7874777524824feb8b799edab471e4194b16822c0824ba3771b55d9be586".toList) := by kernel_rfl
theorem conflictKeeps_k5 : false = Tryz.prog.looks [] := by kernel_rfl
end Go.Proofs.YtjkkdmeebhjaiaaGreatDoor.K
