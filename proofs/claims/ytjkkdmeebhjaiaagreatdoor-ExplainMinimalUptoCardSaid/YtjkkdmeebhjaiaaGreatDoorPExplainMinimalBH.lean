
/- The law ExplainMinimal: further facts of its row. -/
import Derived.Test.YtjkkdmeebhjaiaaGreatDoorH19
set_option linter.unusedVariables false
set_option linter.unusedSimpArgs false
namespace Go.Proofs.YtjkkdmeebhjaiaaGreatDoor.K
open Go Go.AM Go.Proofs Go.RowKit
theorem explainMinimal_k1 : Rows.explainMinimalUptoRow.wfByText (Rows.OpenSpec.upto Rows.explainMinimalSpec) = true := by kernel_rfl
theorem explainMinimal_k2 : false = Rows.explainMinimalUptoRow.goesBy Tryz.prog := by kernel_rfl
theorem explainMinimal_k3 : Tryz.prog.funcNamed "lorry/lorrylaw51.ExplainMinimal" = some 6 := by kernel_rfl
theorem explainMinimal_k4 : Tryz.prog.mainIs = some (true, "ad4b7874777524824feb8b799edab471e4194b16822c0824ba3771b55d9be586".toList) := by kernel_rfl
theorem explainMinimal_k5 : false = Tryz.prog.looks [] := by kernel_rfl
end Go.Proofs.YtjkkdmeebhjaiaaGreatDoor.K
