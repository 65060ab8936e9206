
/- The law ExplainMinimal: what its row says of the functions that are reached. -/
import Derived.Test.YtjkkdmeebhjaiaaGreatDoorH19
set_option linter.unusedVariables false
set_option linter.unusedSimpArgs false
namespace Go.Proofs.YtjkkdmeebhjaiaaGreatDoor.K
open Go Go.AM Go.Proofs Go.RowKit
theorem explainMinimal_h1 : (Rows.explainMinimalUptoRow.inPlace == Tryz.prog.inPlace 6) = true := by kernel_rfl
theorem explainMinimal_h2 : (Rows.explainMinimalUptoRow.unfollowed == Tryz.prog.unfollowed 6) = true := by kernel_rfl
theorem explainMinimal_h3 : (Rows.explainMinimalUptoRow.recurses == Tryz.prog.recurses 6) = true := by kernel_rfl
theorem explainMinimal_h4 : (Rows.explainMinimalUptoRow.named == Tryz.prog.varsNamed 6) = true := by kernel_rfl
end Go.Proofs.YtjkkdmeebhjaiaaGreatDoor.K
