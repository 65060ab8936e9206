
/- The law ExplainLines: further facts of its row. -/
import Derived.Test.YtgknhiknjimdpaaGreatDoorZ15
set_option linter.unusedVariables false
set_option linter.unusedSimpArgs false
namespace Go.Proofs.YtgknhiknjimdpaaGreatDoor.K
open Go Go.AM Go.Proofs Go.RowKit
theorem explainLines_k1 : Rows.explainLinesUptoRow.wfByText (Rows.OpenSpec.upto Rows.explainLinesSpec) = true := by kernel_rfl
theorem explainLines_k2 : false = Rows.explainLinesUptoRow.goesBy Tryz.prog := by kernel_rfl
theorem explainLines_k3 : Tryz.prog.funcNamed "lorry/lorrylaw51.ExplainLines" = some 4 := by kernel_rfl
theorem explainLines_k4 : Tryz.prog.mainIs = some (true, "3898d2af7178e41d210d0ade5173cbbce815fdbadb69ba2be7effd11b6b2e3f4".toList) := by kernel_rfl
theorem explainLines_k5 : false = Tryz.prog.looks [] := by kernel_rfl
end Go.Proofs.YtgknhiknjimdpaaGreatDoor.K
