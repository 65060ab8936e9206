
/- The law WeekCounts: further facts of its row. -/
import Derived.Test.YtbdmjphjnniogaaGreatDoorZ21
set_option linter.unusedVariables false
set_option linter.unusedSimpArgs false
namespace Go.Proofs.YtbdmjphjnniogaaGreatDoor.K
open Go Go.AM Go.Proofs Go.RowKit
theorem weekCounts_k1 : Rows.weekCountsUptoRow.wfByText (Rows.OpenSpec.upto Rows.weekCountsSpec) = true := by kernel_rfl
theorem weekCounts_k2 : false = Rows.weekCountsUptoRow.goesBy Tryz.prog := by kernel_rfl
theorem weekCounts_k3 : Tryz.prog.funcNamed "lorry/lorrylaw59.WeekCounts" = some 4 := by kernel_rfl
theorem weekCounts_k4 : Tryz.prog.mainIs = some (true, "8b887b66182eced1686f7c5cae7e2a46618d917f5dfc180ef4f17ff94ef9b8d2".toList) := by kernel_rfl
theorem weekCounts_k5 : false = Tryz.prog.looks [] := by kernel_rfl
end Go.Proofs.YtbdmjphjnniogaaGreatDoor.K
