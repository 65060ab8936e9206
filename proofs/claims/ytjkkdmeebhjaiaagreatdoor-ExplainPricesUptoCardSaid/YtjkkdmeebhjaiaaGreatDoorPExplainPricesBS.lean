
/- The law ExplainPrices: further facts of its row. -/
import Derived.Test.YtjkkdmeebhjaiaaGreatDoorS19
set_option linter.unusedVariables false
set_option linter.unusedSimpArgs false
namespace Go.Proofs.YtjkkdmeebhjaiaaGreatDoor.K
open Go Go.AM Go.Proofs Go.RowKit
theorem explainPrices_k1 : Rows.explainPricesUptoRow.wfByText (Rows.OpenSpec.upto Rows.explainPricesSpec) = true := by kernel_rfl
theorem explainPrices_k2 : false = Rows.explainPricesUptoRow.goesBy Tryz.prog := by kernel_rfl
theorem explainPrices_k3 : Tryz.prog.funcNamed "lorry/lorrylaw51.ExplainPrices" = some 7 := by kernel_rfl
theorem explainPrices_k4 : Tryz.prog.mainIs = some (true, "ad4b7874777524824feb8b799edab471e4194b16822c0824ba3771b55d9be586".toList) := by kernel_rfl
theorem explainPrices_k5 : false = Tryz.prog.looks [] := by kernel_rfl
end Go.Proofs.YtjkkdmeebhjaiaaGreatDoor.K
