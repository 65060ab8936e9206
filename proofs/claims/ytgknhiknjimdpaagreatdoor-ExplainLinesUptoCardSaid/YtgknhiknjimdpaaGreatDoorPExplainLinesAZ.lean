
/- The law ExplainLines: what its row says of the functions that are reached. -/
import Derived.Test.YtgknhiknjimdpaaGreatDoorZ15
set_option linter.unusedVariables false
set_option linter.unusedSimpArgs false
namespace Go.Proofs.YtgknhiknjimdpaaGreatDoor.K
open Go Go.AM Go.Proofs Go.RowKit
theorem explainLines_h1 : (Rows.explainLinesUptoRow.inPlace == Tryz.prog.inPlace 4) = true := by kernel_rfl
theorem explainLines_h2 : (Rows.explainLinesUptoRow.unfollowed == Tryz.prog.unfollowed 4) = true := by kernel_rfl
theorem explainLines_h3 : (Rows.explainLinesUptoRow.recurses == Tryz.prog.recurses 4) = true := by kernel_rfl
theorem explainLines_h4 : (Rows.explainLinesUptoRow.named == Tryz.prog.varsNamed 4) = true := by kernel_rfl
end Go.Proofs.YtgknhiknjimdpaaGreatDoor.K
