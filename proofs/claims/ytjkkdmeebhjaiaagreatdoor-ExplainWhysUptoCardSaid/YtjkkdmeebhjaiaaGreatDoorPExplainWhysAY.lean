
/- The law ExplainWhys: what its row says of the functions that are reached. -/
import Derived.Test.YtjkkdmeebhjaiaaGreatDoorY19
set_option linter.unusedVariables false
set_option linter.unusedSimpArgs false
namespace Go.Proofs.YtjkkdmeebhjaiaaGreatDoor.K
open Go Go.AM Go.Proofs Go.RowKit
theorem explainWhys_h1 : (Rows.explainWhysUptoRow.inPlace == Tryz.prog.inPlace 5) = true := by kernel_rfl
theorem explainWhys_h2 : (Rows.explainWhysUptoRow.unfollowed == Tryz.prog.unfollowed 5) = true := by kernel_rfl
theorem explainWhys_h3 : (Rows.explainWhysUptoRow.recurses == Tryz.prog.recurses 5) = true := by kernel_rfl
theorem explainWhys_h4 : (Rows.explainWhysUptoRow.named == Tryz.prog.varsNamed 5) = true := by kernel_rfl
end Go.Proofs.YtjkkdmeebhjaiaaGreatDoor.K
