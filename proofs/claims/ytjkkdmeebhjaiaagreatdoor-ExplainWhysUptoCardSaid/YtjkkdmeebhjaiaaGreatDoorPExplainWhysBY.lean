
/- The law ExplainWhys: further facts of its row. -/
import Derived.Test.YtjkkdmeebhjaiaaGreatDoorY19
set_option linter.unusedVariables false
set_option linter.unusedSimpArgs false
namespace Go.Proofs.YtjkkdmeebhjaiaaGreatDoor.K
open Go Go.AM Go.Proofs Go.RowKit
theorem explainWhys_k1 : Rows.explainWhysUptoRow.wfByText (Rows.OpenSpec.upto Rows.explainWhysSpec) = true := by kernel_rfl
theorem explainWhys_k2 : false = Rows.explainWhysUptoRow.goesBy Tryz.prog := by kernel_rfl
theorem explainWhys_k3 : Tryz.prog.funcNamed "lorry/lorrylaw51.ExplainWhys" = some 5 := by kernel_rfl
theorem explainWhys_k4 : Tryz.prog.mainIs = some (true, "ad4b7874777524824feb8b799edab471e4194b16822c0824ba3771b55d9be586".toList) := by kernel_rfl
theorem explainWhys_k5 : false = Tryz.prog.looks [] := by kernel_rfl
end Go.Proofs.YtjkkdmeebhjaiaaGreatDoor.K
